import PyProof.Rows.All
import Wide.All
import OpenK.AllK
import Wide.FinOn
import HandS.ForMost
import HandS.EndBits
import HandS.TupAny
import HandS.IsInst
import HandS.Zip
import HandS.CallLocal
import HandS.RaiseMore
import HandS.SortInts
import HandS.Dict
import HandS.More
import HandS.WordsList
import PySem.Challenge.RW_pagebooks_k00_forms_of_any_values
set_option Elab.async false
set_option linter.all false
set_option maxRecDepth 100000
set_option autoImplicit false
/-! Mir: a mirror of Python values and stores over the layer HandS. Values are data (immutable) or places of a store (mutable);
a piece of syntax is worth a plain Lean function; soundness is said once for each construct. -/
namespace Mir
open PySem L2

/-- a value: data; a place of the store; a value of the layer as it is (a def, a class, a type) -/
inductive D where
  | non | bl (b : Bool) | int (i : Int) | str (x : Str)
  | tup (ds : List D) | lst (ds : List D) | fro (ds : List D) | dic (ks : List Key) (ds : List D)
  | loc (n : Nat) | raw (v : V)

/-- a mutable object -/
inductive O where
  | lst (ds : List D) | dic (ks : List Key) (ds : List D) | ins (C : Addr) (fs : List Str) (ds : List D)

abbrev Env := List (Option D)
abbrev Store := List O
/-- where the places of the store lie -/
abbrev Bt := Nat → Option Addr
def Out (β : Bt) (a : Addr) : Prop := ∀ n, β n ≠ some a
def KL (K : PySem.W.Frag) (a : Addr) (xs : List V) : Prop :=
  ∃ (o : Obj) (its : Array Value) (n : Nat), K.lookup a = some o ∧ o.cls = .type "list" ∧ o.dict = none ∧ o.data = .seq its n ∧ its.size ≤ sizeLine ∧ Vals xs its.toList
def KT (K : PySem.W.Frag) (a : Addr) (xs : List V) : Prop :=
  ∃ (o : Obj) (its : Array Value) (n : Nat), K.lookup a = some o ∧ o.cls = .type "tuple" ∧ o.data = .seq its n ∧ its.size ≤ sizeLine ∧ Vals xs its.toList

mutual
inductive RD (K : PySem.W.Frag) (β : Bt) (H : Hp) : D → V → Prop where
  | non : RD K β H .non .non
  | bl (b : Bool) : RD K β H (.bl b) (.bl b)
  | int (i : Int) : RD K β H (.int i) (.int i)
  | str (x : Str) : RD K β H (.str x) (.str x)
  | tup {a : Addr} {ds : List D} {vs : List V} : Rd H a (.tup vs) → Out β a → RDs K β H ds vs → RD K β H (.tup ds) (.ref a)
  | ktup {a : Addr} {ds : List D} {vs : List V} : KT K a vs → RDs K β H ds vs → RD K β H (.tup ds) (.ref a)
  | lst {a : Addr} {ds : List D} {vs : List V} : H a = some (.lst vs) → Out β a → RDs K β H ds vs → RD K β H (.lst ds) (.ref a)
  | fro {a : Addr} {ds : List D} {vs : List V} : Rd H a (.lst vs) → Out β a → RDs K β H ds vs → RD K β H (.fro ds) (.ref a)
  | kfro {a : Addr} {ds : List D} {vs : List V} : KL K a vs → RDs K β H ds vs → RD K β H (.fro ds) (.ref a)
  | dic {a : Addr} {ks : List Key} {ds : List D} {kvs : List (Key × V)} : H a = some (.dK kvs) → Out β a → kvs.map (·.1) = ks → RDs K β H ds (kvs.map (·.2)) → RD K β H (.dic ks ds) (.ref a)
  | loc {n : Nat} {a : Addr} : β n = some a → RD K β H (.loc n) (.ref a)
  | raw (v : V) : RD K β H (.raw v) v
inductive RDs (K : PySem.W.Frag) (β : Bt) (H : Hp) : List D → List V → Prop where
  | nil : RDs K β H [] []
  | cons {d : D} {v : V} {ds : List D} {vs : List V} : RD K β H d v → RDs K β H ds vs → RDs K β H (d :: ds) (v :: vs)
end

/-- what stays through a piece of code -/
structure Step (β : Bt) (H : Hp) (β' : Bt) (H' : Hp) : Prop where
  keep : ∀ a o, H a = some o → Out β a → H' a = some o
  ext : ∀ n a, β n = some a → β' n = some a
  new : ∀ n a, β' n = some a → β n = some a ∨ H a = none
  live : ∀ a o, H a = some o → ∃ o', H' a = some o'

section
variable {K : PySem.W.Frag} {β β' β2 : Bt} {H H' H2 : Hp} {d : D} {v : V} {ds : List D} {vs : List V} {a : Addr}
theorem Step.refl : Step β H β H := ⟨fun _ _ h _ => h, fun _ _ h => h, fun _ _ h => .inl h, fun _ o h => ⟨o, h⟩⟩
theorem Step.out (st : Step β H β' H') {o : HO} (h : H a = some o) (n : Out β a) : Out β' a := fun i e => by
  rcases st.new i a e with q | q
  · exact n i q
  · rw [h] at q; cases q
theorem Step.trans (s : Step β H β' H') (t : Step β' H' β2 H2) : Step β H β2 H2 where
  keep := fun a o h n => t.keep a o (s.keep a o h n) (s.out h n)
  ext := fun n a h => t.ext n a (s.ext n a h)
  new := fun n a h => by
    rcases t.new n a h with q | q
    · exact s.new n a q
    · cases e : H a with
      | none => exact .inr rfl
      | some o =>
        obtain ⟨o', e'⟩ := s.live a o e
        rw [e'] at q; cases q
  live := fun a o h => by
    obtain ⟨o', e'⟩ := s.live a o h
    exact t.live a o' e'
/-- a new object is laid -/
theorem Step.laid {p : Addr} {o : HO} (h : H p = none) : Step β H β (upd H p o) where
  keep := fun a u e _ => by rw [upd_ne (ne_of_none e h)]; exact e
  ext := fun _ _ h => h
  new := fun _ _ h => .inl h
  live := fun a u e => ⟨u, by rw [upd_ne (ne_of_none e h)]; exact e⟩
theorem Rd.some {u : HO} (h : Rd H a u) : ∃ o, H a = some o ∧ (∀ H' : Hp, H' a = some o → Rd H' a u) := by
  rcases h with h | ⟨o, h⟩
  · exact ⟨_, h, fun _ e => .inl e⟩
  · exact ⟨_, h, fun _ e => .inr ⟨o, e⟩⟩
theorem Step.rd {u : HO} (st : Step β H β' H') (h : Rd H a u) (n : Out β a) : Rd H' a u ∧ Out β' a := by
  obtain ⟨o, e, f⟩ := Rd.some h
  exact ⟨f H' (st.keep a o e n), st.out e n⟩

mutual
theorem RD.step (st : Step β H β' H') : ∀ (d : D) (v : V), RD K β H d v → RD K β' H' d v
  | .non, _, h => by cases h; exact .non
  | .bl _, _, h => by cases h; exact .bl _
  | .int _, _, h => by cases h; exact .int _
  | .str _, _, h => by cases h; exact .str _
  | .tup ds, _, h => by
    cases h with
    | tup h1 h2 h3 => exact .tup (st.rd h1 h2).1 (st.rd h1 h2).2 (RDs.step st ds _ h3)
    | ktup h1 h3 => exact .ktup h1 (RDs.step st ds _ h3)
  | .lst ds, _, h => by
    cases h with
    | lst h1 h2 h3 => exact .lst (st.keep _ _ h1 h2) (st.out h1 h2) (RDs.step st ds _ h3)
  | .fro ds, _, h => by
    cases h with
    | fro h1 h2 h3 => exact .fro (st.rd h1 h2).1 (st.rd h1 h2).2 (RDs.step st ds _ h3)
    | kfro h1 h3 => exact .kfro h1 (RDs.step st ds _ h3)
  | .dic ks ds, _, h => by
    cases h with
    | dic h1 h2 h4 h3 => exact .dic (st.keep _ _ h1 h2) (st.out h1 h2) h4 (RDs.step st ds _ h3)
  | .loc n, _, h => by cases h with | loc h => exact .loc (st.ext _ _ h)
  | .raw v, _, h => by cases h; exact .raw v
theorem RDs.step (st : Step β H β' H') : ∀ (ds : List D) (vs : List V), RDs K β H ds vs → RDs K β' H' ds vs
  | [], _, h => by cases h; exact .nil
  | d :: ds, _, h => by cases h with | cons h1 h2 => exact .cons (RD.step st d _ h1) (RDs.step st ds _ h2)
end
theorem RDs.length : ∀ {ds : List D} {vs : List V}, RDs K β H ds vs → ds.length = vs.length
  | [], _, h => by cases h; rfl
  | d :: ds, _, h => by cases h with | cons h1 h2 => simp [RDs.length h2]
theorem RDs.get : ∀ {ds : List D} {vs : List V} {i : Nat} {d : D}, RDs K β H ds vs → ds[i]? = some d → ∃ v, vs[i]? = some v ∧ RD K β H d v
  | [], _, _, _, h, e => by simp at e
  | x :: ds, _, 0, d, h, e => by cases h with | cons h1 h2 => simp at e; subst e; exact ⟨_, rfl, h1⟩
  | x :: ds, _, i + 1, d, h, e => by cases h with | cons h1 h2 => exact RDs.get (i := i) h2 (by simpa using e)
theorem RDs.getV : ∀ {ds : List D} {vs : List V} {i : Nat} {v : V}, RDs K β H ds vs → vs[i]? = some v → ∃ d, ds[i]? = some d ∧ RD K β H d v
  | _, [], _, _, h, e => by simp at e
  | _, x :: vs, 0, d, h, e => by cases h with | cons h1 h2 => simp at e; subst e; exact ⟨_, rfl, h1⟩
  | _, x :: vs, i + 1, d, h, e => by cases h with | cons h1 h2 => exact RDs.getV (i := i) h2 (by simpa using e)
theorem RDs.append : ∀ {ds es : List D} {vs ws : List V}, RDs K β H ds vs → RDs K β H es ws → RDs K β H (ds ++ es) (vs ++ ws)
  | [], _, _, _, h, g => by cases h; exact g
  | d :: ds, _, _, _, h, g => by cases h with | cons h1 h2 => exact .cons h1 (RDs.append h2 g)
theorem RDs.set {d : D} {v : V} (r : RD K β H d v) : ∀ {ds : List D} {vs : List V} (i : Nat), RDs K β H ds vs → RDs K β H (ds.set i d) (vs.set i v)
  | [], _, _, h => by cases h; exact .nil
  | x :: ds, _, 0, h => by cases h with | cons h1 h2 => exact .cons r h2
  | x :: ds, _, i + 1, h => by cases h with | cons h1 h2 => exact .cons h1 (RDs.set r i h2)
theorem RDs.take : ∀ {ds : List D} {vs : List V} (i : Nat), RDs K β H ds vs → RDs K β H (ds.take i) (vs.take i)
  | _, _, 0, h => by simp; exact .nil
  | [], _, _, h => by cases h; simp; exact .nil
  | x :: ds, _, i + 1, h => by cases h with | cons h1 h2 => exact .cons h1 (RDs.take i h2)
theorem RDs.drop : ∀ {ds : List D} {vs : List V} (i : Nat), RDs K β H ds vs → RDs K β H (ds.drop i) (vs.drop i)
  | _, _, 0, h => by simpa using h
  | [], _, _, h => by cases h; simp; exact .nil
  | x :: ds, _, i + 1, h => by cases h with | cons h1 h2 => simpa using RDs.drop i h2
theorem RDs.one (h : RD K β H d v) : RDs K β H [d] [v] := .cons h .nil

/-! ### what is read of a value -/
theorem RD.sqt {ds : List D} {v : V} (h : RD K β H (.tup ds) v) : ∃ a vs, v = .ref a ∧ SqT K H a vs ∧ RDs K β H ds vs := by
  cases h with
  | tup h1 h2 h3 => exact ⟨_, _, rfl, .inl h1, h3⟩
  | ktup h1 h3 => exact ⟨_, _, rfl, .inr h1, h3⟩
theorem RD.sql {ds : List D} {v : V} (h : RD K β H (.lst ds) v) : ∃ a vs, v = .ref a ∧ SqL K H a vs ∧ RDs K β H ds vs := by
  cases h with
  | lst h1 h2 h3 => exact ⟨_, _, rfl, .inl (.inl h1), h3⟩
theorem RD.sqf {ds : List D} {v : V} (h : RD K β H (.fro ds) v) : ∃ a vs, v = .ref a ∧ SqL K H a vs ∧ RDs K β H ds vs := by
  cases h with
  | fro h1 h2 h3 => exact ⟨_, _, rfl, .inl h1, h3⟩
  | kfro h1 h3 => exact ⟨_, _, rfl, .inr h1, h3⟩
theorem RD.lst_inv {ds : List D} {v : V} (h : RD K β H (.lst ds) v) : ∃ a vs, v = .ref a ∧ H a = some (.lst vs) ∧ Out β a ∧ RDs K β H ds vs := by
  cases h with
  | lst h1 h2 h3 => exact ⟨_, _, rfl, h1, h2, h3⟩

/-! ### objects, the store -/
inductive RO (K : PySem.W.Frag) (β : Bt) (H : Hp) : O → HO → Prop where
  | lst {ds : List D} {vs : List V} : RDs K β H ds vs → RO K β H (.lst ds) (.lst vs)
  | dic {ks : List Key} {ds : List D} {kvs : List (Key × V)} : kvs.map (·.1) = ks → RDs K β H ds (kvs.map (·.2)) → RO K β H (.dic ks ds) (.dK kvs)
  | ins {C dx : Addr} {ns : List Str} {ds : List D} {fs : List (Str × V)} : fs.map (·.1) = ns → RDs K β H ds (fs.map (·.2)) → RO K β H (.ins C ns ds) (.ins C dx fs)
theorem RO.step {o : O} {u : HO} (st : Step β H β' H') (h : RO K β H o u) : RO K β' H' o u := by
  cases h with
  | lst h => exact .lst (RDs.step st _ _ h)
  | dic e h => exact .dic e (RDs.step st _ _ h)
  | ins e h => exact .ins e (RDs.step st _ _ h)

structure RS (K : PySem.W.Frag) (β : Bt) (H : Hp) (S : Store) : Prop where
  dom : ∀ n a, β n = some a → n < S.length
  obj : ∀ n o, S[n]? = some o → ∃ a u, β n = some a ∧ H a = some u ∧ RO K β H o u
  inj : ∀ n m a, β n = some a → β m = some a → n = m
structure RE (K : PySem.W.Frag) (β : Bt) (H : Hp) (env : Env) (σ : L2.St) : Prop where
  len : env.length = σ.length
  get : ∀ (i : Nat) (d : D), env[i]? = some (some d) → ∃ v : V, σ[i]? = some (some v) ∧ RD K β H d v
theorem RE.step {env : Env} {σ : L2.St} (st : Step β H β' H') (h : RE K β H env σ) : RE K β' H' env σ :=
  ⟨h.len, fun i d e => let ⟨v, e', r⟩ := h.get i d e; ⟨v, e', RD.step st _ _ r⟩⟩
theorem RE.set {env : Env} {σ : L2.St} {i : Nat} (h : RE K β H env σ) (r : RD K β H d v) : RE K β H (env.set i (some d)) (σ.set i (some v)) := by
  refine ⟨by simp [h.len], fun j e he => ?_⟩
  by_cases hj : i = j
  · subst hj
    by_cases hl : i < env.length
    · rw [List.getElem?_set_self hl] at he
      cases he
      exact ⟨v, List.getElem?_set_self (by rw [← h.len]; exact hl), r⟩
    · rw [List.getElem?_eq_none (by simpa using hl)] at he; cases he
  · rw [List.getElem?_set_ne hj] at he
    obtain ⟨w, e', r'⟩ := h.get j e he
    exact ⟨w, by rw [List.getElem?_set_ne hj]; exact e', r'⟩
theorem RS.ne {S : Store} (h : RS K β H S) {n : Nat} {a : Addr} (e : β n = some a) : ∃ o u, S[n]? = some o ∧ H a = some u ∧ RO K β H o u := by
  have hn := h.dom n a e
  obtain ⟨b, u, h1, h2, h3⟩ := h.obj n S[n] (List.getElem?_eq_getElem hn)
  rw [e] at h1; cases h1
  exact ⟨_, u, List.getElem?_eq_getElem hn, h2, h3⟩
/-- a new address is out -/
theorem RS.out {S : Store} (h : RS K β H S) {p : Addr} (hp : H p = none) : Out β p := fun n e => by
  obtain ⟨o, u, _, h2, _⟩ := h.ne e
  rw [hp] at h2; cases h2
theorem RS.step0 {S : Store} (st : Step β H β H') (h : RS K β H S) (hk : ∀ n a, β n = some a → H' a = H a) : RS K β H' S :=
  ⟨h.dom, fun n o e => let ⟨a, u, h1, h2, h3⟩ := h.obj n o e; ⟨a, u, h1, by rw [hk n a h1]; exact h2, h3.step st⟩, h.inj⟩
/-- a new object that is no place of the store -/
theorem RS.laid {S : Store} {p : Addr} {o : HO} (h : RS K β H S) (hp : H p = none) : RS K β (upd H p o) S :=
  h.step0 (.laid hp) fun n a e => by
    obtain ⟨_, u, _, h2, _⟩ := h.ne e
    exact upd_ne (ne_of_none h2 hp)
theorem RD.newT {S : Store} {p : Addr} (h : RS K β H S) (hp : H p = none) (r : RDs K β H ds vs) : RD K β (upd H p (.tup vs)) (.tup ds) (.ref p) :=
  .tup (.inl upd_same) (h.out hp) (RDs.step (.laid hp) _ _ r)
theorem RD.newL {S : Store} {p : Addr} (h : RS K β H S) (hp : H p = none) (r : RDs K β H ds vs) : RD K β (upd H p (.lst vs)) (.lst ds) (.ref p) :=
  .lst upd_same (h.out hp) (RDs.step (.laid hp) _ _ r)
theorem RD.newD {S : Store} {p : Addr} {kvs : List (Key × V)} (h : RS K β H S) (hp : H p = none) (r : RDs K β H ds (kvs.map (·.2))) : RD K β (upd H p (.dK kvs)) (.dic (kvs.map (·.1)) ds) (.ref p) :=
  .dic upd_same (h.out hp) rfl (RDs.step (.laid hp) _ _ r)
def bset (β : Bt) (n : Nat) (p : Addr) : Bt := fun i => if i = n then some p else β i
/-- a new object that is a place of the store -/
theorem Step.place {S : Store} {p : Addr} {o : HO} (h : RS K β H S) (hp : H p = none) : Step β H (bset β S.length p) (upd H p o) where
  keep := fun a u e _ => by rw [upd_ne (ne_of_none e hp)]; exact e
  ext := fun n a e => by
    unfold bset
    rw [if_neg (Nat.ne_of_lt (h.dom n a e))]
    exact e
  new := fun n a e => by
    unfold bset at e
    by_cases hn : n = S.length
    · rw [if_pos hn] at e; cases e; exact .inr hp
    · rw [if_neg hn] at e; exact .inl e
  live := fun a u e => ⟨u, by rw [upd_ne (ne_of_none e hp)]; exact e⟩
theorem RS.place {S : Store} {p : Addr} {o : O} {u : HO} (h : RS K β H S) (hp : H p = none) (r : RO K β H o u) : RS K (bset β S.length p) (upd H p u) (S ++ [o]) := by
  have st : Step β H (bset β S.length p) (upd H p u) := .place h hp
  refine ⟨fun n a e => ?_, fun n x e => ?_, fun n m a e1 e2 => ?_⟩
  · unfold bset at e
    rw [List.length_append]
    by_cases hn : n = S.length
    · rw [hn]; exact Nat.lt_succ_self _
    · rw [if_neg hn] at e; exact Nat.lt_succ_of_lt (h.dom n a e)
  · by_cases hn : n < S.length
    · rw [List.getElem?_append_left hn] at e
      obtain ⟨a, w, h1, h2, h3⟩ := h.obj n x e
      exact ⟨a, w, st.ext n a h1, by rw [upd_ne (ne_of_none h2 hp)]; exact h2, h3.step st⟩
    · have hn2 : n = S.length := by
        have := (List.getElem?_eq_some_iff.mp e).1
        rw [List.length_append] at this
        have t1 : ([o] : List O).length = 1 := rfl
        omega
      subst hn2
      simp at e
      subst e
      exact ⟨p, u, by unfold bset; rw [if_pos rfl], upd_same, r.step st⟩
  · unfold bset at e1 e2
    by_cases hn : n = S.length
    · by_cases hm : m = S.length
      · rw [hn, hm]
      · rw [if_pos hn] at e1; rw [if_neg hm] at e2; cases e1
        exact absurd e2 (h.out hp m)
    · by_cases hm : m = S.length
      · rw [if_neg hn] at e1; rw [if_pos hm] at e2; cases e2
        exact absurd e1 (h.out hp n)
      · rw [if_neg hn] at e1; rw [if_neg hm] at e2
        exact h.inj n m a e1 e2
/-- an object of the store is changed -/
theorem Step.write {n : Nat} {u : HO} (e : β n = some a) : Step β H β (upd H a u) where
  keep := fun b o h ho => by rw [upd_ne (fun z => ho n (by rw [z]; exact e))]; exact h
  ext := fun _ _ h => h
  new := fun _ _ h => .inl h
  live := fun b o h => by
    by_cases hb : b = a
    · subst hb; exact ⟨u, upd_same⟩
    · exact ⟨o, by rw [upd_ne hb]; exact h⟩
theorem RS.write {S : Store} {n : Nat} {o : O} {u : HO} (h : RS K β H S) (e : β n = some a) (r : RO K β H o u) : RS K β (upd H a u) (S.set n o) := by
  have st : Step β H β (upd H a u) := .write e
  refine ⟨fun m b hb => by rw [List.length_set]; exact h.dom m b hb, fun m x hx => ?_, h.inj⟩
  by_cases hm : n = m
  · subst hm
    have hl : n < S.length := h.dom n a e
    rw [List.getElem?_set_self hl] at hx
    cases hx
    exact ⟨a, u, e, upd_same, r.step st⟩
  · rw [List.getElem?_set_ne hm] at hx
    obtain ⟨b, w, h1, h2, h3⟩ := h.obj m x hx
    exact ⟨b, w, h1, by rw [upd_ne (fun z => hm (h.inj n m b (by rw [z]; exact e) h1))]; exact h2, h3.step st⟩
end

/-! ### forgetting the places from n on -/
mutual
def D.blw (n : Nat) : D → Bool
  | .non => true | .bl _ => true | .int _ => true | .str _ => true
  | .tup ds => D.blws n ds | .lst ds => D.blws n ds | .fro ds => D.blws n ds | .dic _ ds => D.blws n ds
  | .loc m => decide (m < n) | .raw _ => true
def D.blws (n : Nat) : List D → Bool
  | [] => true
  | d :: ds => D.blw n d && D.blws n ds
end
def O.blw (n : Nat) : O → Bool
  | .lst ds => D.blws n ds | .dic _ ds => D.blws n ds | .ins _ _ ds => D.blws n ds
def bcut (β : Bt) (n : Nat) : Bt := fun i => if i < n then β i else none
section
variable {K : PySem.W.Frag} {β β' : Bt} {H H' : Hp} {d : D} {v : V} {ds : List D} {vs : List V} {a : Addr} {n : Nat}
theorem Out.cut (h : Out β a) : Out (bcut β n) a := fun i e => by
  unfold bcut at e
  split at e
  · exact h i e
  · cases e
mutual
theorem RD.cut : ∀ (d : D) (v : V), RD K β H d v → d.blw n = true → RD K (bcut β n) H d v
  | .non, _, h, _ => by cases h; exact .non
  | .bl _, _, h, _ => by cases h; exact .bl _
  | .int _, _, h, _ => by cases h; exact .int _
  | .str _, _, h, _ => by cases h; exact .str _
  | .tup ds, _, h, b => by
    have b' : D.blws n ds = true := by simpa only [D.blw] using b
    cases h with
    | tup h1 h2 h3 => exact .tup h1 h2.cut (RDs.cut ds _ h3 b')
    | ktup h1 h3 => exact .ktup h1 (RDs.cut ds _ h3 b')
  | .lst ds, _, h, b => by
    have b' : D.blws n ds = true := by simpa only [D.blw] using b
    cases h with
    | lst h1 h2 h3 => exact .lst h1 h2.cut (RDs.cut ds _ h3 b')
  | .fro ds, _, h, b => by
    have b' : D.blws n ds = true := by simpa only [D.blw] using b
    cases h with
    | fro h1 h2 h3 => exact .fro h1 h2.cut (RDs.cut ds _ h3 b')
    | kfro h1 h3 => exact .kfro h1 (RDs.cut ds _ h3 b')
  | .dic ks ds, _, h, b => by
    have b' : D.blws n ds = true := by simpa only [D.blw] using b
    cases h with
    | dic h1 h2 h4 h3 => exact .dic h1 h2.cut h4 (RDs.cut ds _ h3 b')
  | .loc m, _, h, b => by
    have b' : m < n := by simpa only [D.blw, decide_eq_true_eq] using b
    cases h with
    | loc h =>
      refine .loc ?_
      unfold bcut
      rw [if_pos b']
      exact h
  | .raw v, _, h, _ => by cases h; exact .raw v
theorem RDs.cut : ∀ (ds : List D) (vs : List V), RDs K β H ds vs → D.blws n ds = true → RDs K (bcut β n) H ds vs
  | [], _, h, _ => by cases h; exact .nil
  | d :: ds, _, h, b => by
    have b' : d.blw n = true ∧ D.blws n ds = true := by simpa only [D.blws, Bool.and_eq_true] using b
    cases h with | cons h1 h2 => exact .cons (RD.cut d _ h1 b'.1) (RDs.cut ds _ h2 b'.2)
end
theorem RO.cut {o : O} {u : HO} (h : RO K β H o u) (b : o.blw n = true) : RO K (bcut β n) H o u := by
  cases h with
  | lst h => exact .lst (RDs.cut _ _ h (by simpa only [O.blw] using b))
  | dic e h => exact .dic e (RDs.cut _ _ h (by simpa only [O.blw] using b))
  | ins e h => exact .ins e (RDs.cut _ _ h (by simpa only [O.blw] using b))
theorem RS.cut {S : Store} (h : RS K β H S) (b : (S.take n).all (O.blw n) = true) : RS K (bcut β n) H (S.take n) := by
  refine ⟨fun m a e => ?_, fun m o e => ?_, fun m k a e1 e2 => ?_⟩
  · unfold bcut at e
    split at e
    · rw [List.length_take]
      have := h.dom m a e
      omega
    · cases e
  · have hm : m < n := by
      have := (List.getElem?_eq_some_iff.mp e).1
      rw [List.length_take] at this
      omega
    have bo : o.blw n = true := List.all_eq_true.mp b o (List.mem_of_getElem? e)
    rw [List.getElem?_take_of_lt hm] at e
    obtain ⟨a, u, h1, h2, h3⟩ := h.obj m o e
    refine ⟨a, u, ?_, h2, h3.cut bo⟩
    unfold bcut
    rw [if_pos hm]
    exact h1
  · unfold bcut at e1 e2
    split at e1
    · split at e2
      · exact h.inj m k a e1 e2
      · cases e2
    · cases e1
theorem Step.cut (st : Step β H β' H') (hd : ∀ m a, β m = some a → m < n) : Step β H (bcut β' n) H' where
  keep := st.keep
  ext := fun m a e => by
    unfold bcut
    rw [if_pos (hd m a e)]
    exact st.ext m a e
  new := fun m a e => by
    unfold bcut at e
    split at e
    · exact st.new m a e
    · cases e
  live := st.live
/-- a place from n on, as a value -/
theorem RD.frz {S : Store} {m : Nat} (h : RS K β H S) (hm : n ≤ m) (e : S[m]? = some (.lst ds)) (r : RD K β H (.loc m) v) (b : D.blws n ds = true) : RD K (bcut β n) H (.lst ds) v := by
  cases r with
  | loc hl =>
    obtain ⟨a, u, h1, h2, h3⟩ := h.obj m _ e
    rw [hl] at h1; cases h1
    cases h3 with
    | lst h3 =>
      refine .lst h2 (fun i q => ?_) (RDs.cut _ _ h3 b)
      unfold bcut at q
      split at q
      · have := h.inj i m _ q hl
        omega
      · cases q
theorem RD.frzD {S : Store} {m : Nat} {ks : List Key} (h : RS K β H S) (hm : n ≤ m) (e : S[m]? = some (.dic ks ds)) (r : RD K β H (.loc m) v) (b : D.blws n ds = true) : RD K (bcut β n) H (.dic ks ds) v := by
  cases r with
  | loc hl =>
    obtain ⟨a, u, h1, h2, h3⟩ := h.obj m _ e
    rw [hl] at h1; cases h1
    cases h3 with
    | dic e h3 =>
      refine .dic h2 (fun i q => ?_) e (RDs.cut _ _ h3 b)
      unfold bcut at q
      split at q
      · have := h.inj i m _ q hl
        omega
      · cases q
end
/-- what is handed back: places from n on are forgotten, a list that is such a place is a value from here on -/
def closeV (n : Nat) (d : D) (S : Store) : Option (D × Store) :=
  if (S.take n).all (O.blw n) then
    match d with
    | .loc m => if m < n then some (.loc m, S.take n) else
      match S[m]? with
      | some (.lst ds) => if D.blws n ds then some (.lst ds, S.take n) else none
      | some (.dic ks ds) => if D.blws n ds then some (.dic ks ds, S.take n) else none
      | _ => none
    | d => if d.blw n then some (d, S.take n) else none
  else none
theorem closeV_ok {K : PySem.W.Frag} {β : Bt} {H : Hp} {d d' : D} {v : V} {n : Nat} {S S' : Store} (h : RS K β H S) (r : RD K β H d v) (e : closeV n d S = some (d', S')) :
    RS K (bcut β n) H S' ∧ RD K (bcut β n) H d' v := by
  unfold closeV at e
  split at e
  · rename_i hb
    have hs := h.cut hb
    split at e
    · rename_i m
      split at e
      · rename_i hm
        cases e
        exact ⟨hs, RD.cut _ _ r (by simpa only [D.blw, decide_eq_true_eq] using hm)⟩
      · rename_i hm
        split at e
        · rename_i ds hd
          split at e
          · rename_i hbd
            cases e
            exact ⟨hs, RD.frz h (by omega) hd r hbd⟩
          · cases e
        · rename_i ks ds hd
          split at e
          · rename_i hbd
            cases e
            exact ⟨hs, RD.frzD h (by omega) hd r hbd⟩
          · cases e
        · cases e
    · split at e
      · rename_i hbd
        cases e
        exact ⟨hs, RD.cut _ _ r hbd⟩
      · cases e
  · cases e
end Mir

set_option Elab.async false
set_option linter.all false
set_option maxRecDepth 100000
set_option autoImplicit false
set_option maxHeartbeats 1000000
/-! Mir2: what a piece of syntax is worth: expressions, tests, arguments, statements. -/
namespace Mir
open PySem L2

abbrev FE := Env → Store → Option (D × Store)
abbrev FT := Env → Store → Option (Bool × Store)
abbrev FA := Env → Store → Option (List D × Store)
inductive Rt where
  | nx (e : Env) | rt (d : D) | bk (e : Env) | ct (e : Env)
abbrev FS := Env → Store → Option (Rt × Store)
abbrev FF := List D → Store → Option (D × Store)
abbrev F2 := D → D → Store → Option (D × Store)
abbrev F1 := D → Store → Option (D × Store)
/-- a value and a store, handed on -/
def bnd {α β : Type} (x : Option (α × Store)) (k : α → Store → Option β) : Option β :=
  match x with
  | some (a, S) => k a S
  | none => none
theorem bnd_some {α β : Type} (a : α) (S : Store) (k : α → Store → Option β) : bnd (some (a, S)) k = k a S := rfl
theorem bnd_none {α β : Type} (k : α → Store → Option β) : bnd none k = none := rfl
theorem bnd_inv {α β : Type} {x : Option (α × Store)} {k : α → Store → Option β} {b : β} (h : bnd x k = some b) : ∃ a S, x = some (a, S) ∧ k a S = some b := by
  cases x with
  | none => cases h
  | some p => exact ⟨p.1, p.2, rfl, h⟩

/-! ### readings by what they are worth -/
section
variable (K : PySem.W.Frag)
def PostE (β : Bt) (H : Hp) (S' : Store) (d : D) (Q : VK) : Prop := ∀ v β' H', Step β H β' H' → RS K β' H' S' → RD K β' H' d v → Q v H'
def PostT (β : Bt) (H : Hp) (S' : Store) (b : Bool) (Q : Bool → Hp → Prop) : Prop := ∀ β' H', Step β H β' H' → RS K β' H' S' → Q b H'
def PostA (β : Bt) (H : Hp) (S' : Store) (ds : List D) (Q : List V → Hp → Prop) : Prop := ∀ vs β' H', Step β H β' H' → RS K β' H' S' → RDs K β' H' ds vs → Q vs H'
def PostN (β : Bt) (H : Hp) (S' : Store) (env : Env) (Q : L2.St → Hp → Prop) : Prop := ∀ σ' β' H', Step β H β' H' → RS K β' H' S' → RE K β' H' env σ' → Q σ' H'
def PostS (β : Bt) (H : Hp) (S' : Store) (r : Rt) (N : Ends) : Prop :=
  match r with
  | .nx e => PostN K β H S' e N.nx
  | .rt d => PostE K β H S' d N.rt
  | .bk e => PostN K β H S' e N.bk
  | .ct e => PostN K β H S' e N.ct
def RdE (t : TE) (f : FE) : Prop := ∀ (σ : L2.St) (β : Bt) (H : Hp) (env : Env) (S : Store) (d : D) (S' : Store) (Q : VK), RE K β H env σ → RS K β H S → f env S = some (d, S') → PostE K β H S' d Q → t σ H Q
def RdT (t : TT) (f : FT) : Prop := ∀ (σ : L2.St) (β : Bt) (H : Hp) (env : Env) (S : Store) (d : Bool) (S' : Store) (Q : Bool → Hp → Prop), RE K β H env σ → RS K β H S → f env S = some (d, S') → PostT K β H S' d Q → t σ H Q
def RdA (t : TA) (f : FA) : Prop := ∀ (σ : L2.St) (β : Bt) (H : Hp) (env : Env) (S : Store) (d : List D) (S' : Store) (Q : List V → Hp → Prop), RE K β H env σ → RS K β H S → f env S = some (d, S') → PostA K β H S' d Q → t σ H Q
def RdS (t : TS) (f : FS) : Prop := ∀ (σ : L2.St) (β : Bt) (H : Hp) (env : Env) (S : Store) (d : Rt) (S' : Store) (N : Ends), RE K β H env σ → RS K β H S → f env S = some (d, S') → PostS K β H S' d N → t N σ H
/-- operations by values -/
def Rd2 (r : R2) (o : F2) : Prop := ∀ (β : Bt) (H : Hp) (S : Store) (x y : D) (v u : V) (d : D) (S' : Store) (Q : VK), RS K β H S → RD K β H x v → RD K β H y u → o x y S = some (d, S') → PostE K β H S' d Q → r v u H Q
def Rd1 (r : V → Hp → VK → Prop) (o : F1) : Prop := ∀ (β : Bt) (H : Hp) (S : Store) (x : D) (v : V) (d : D) (S' : Store) (Q : VK), RS K β H S → RD K β H x v → o x S = some (d, S') → PostE K β H S' d Q → r v H Q
def RdN (r : List V → Hp → VK → Prop) (o : FF) : Prop := ∀ (β : Bt) (H : Hp) (S : Store) (xs : List D) (vs : List V) (d : D) (S' : Store) (Q : VK), RS K β H S → RDs K β H xs vs → o xs S = some (d, S') → PostE K β H S' d Q → r vs H Q
end
section
variable {K : PySem.W.Frag} {β β' : Bt} {H H' : Hp} {S S' : Store} {d : D} {b : Bool} {ds : List D}
theorem PostE.step {Q : VK} (st : Step β H β' H') (q : PostE K β H S' d Q) : PostE K β' H' S' d Q := fun v β2 H2 st2 rs rd => q v β2 H2 (st.trans st2) rs rd
theorem PostT.step {Q : Bool → Hp → Prop} (st : Step β H β' H') (q : PostT K β H S' b Q) : PostT K β' H' S' b Q := fun β2 H2 st2 rs => q β2 H2 (st.trans st2) rs
theorem PostA.step {Q : List V → Hp → Prop} (st : Step β H β' H') (q : PostA K β H S' ds Q) : PostA K β' H' S' ds Q := fun v β2 H2 st2 rs rd => q v β2 H2 (st.trans st2) rs rd
theorem PostN.step {e : Env} {Q : L2.St → Hp → Prop} (st : Step β H β' H') (q : PostN K β H S' e Q) : PostN K β' H' S' e Q := fun v β2 H2 st2 rs rd => q v β2 H2 (st.trans st2) rs rd
theorem PostS.step {r : Rt} {N : Ends} (st : Step β H β' H') (q : PostS K β H S' r N) : PostS K β' H' S' r N := by
  cases r with
  | nx e => exact PostN.step st q
  | rt d => exact PostE.step st q
  | bk e => exact PostN.step st q
  | ct e => exact PostN.step st q
/-- the end where nothing but the value comes -/
theorem PostE.now {Q : VK} {v : V} (q : PostE K β H S' d Q) (rs : RS K β H S') (rd : RD K β H d v) : Q v H := q v β H .refl rs rd
theorem PostE.newT {Q : VK} {vs : List V} (q : PostE K β H S' (.tup ds) Q) (rs : RS K β H S') (r : RDs K β H ds vs) : ∀ p, H p = none → Q (.ref p) (upd H p (.tup vs)) := fun p hp =>
  q _ β _ (.laid hp) (rs.laid hp) (RD.newT rs hp r)
theorem PostE.newL {Q : VK} {vs : List V} (q : PostE K β H S' (.lst ds) Q) (rs : RS K β H S') (r : RDs K β H ds vs) : ∀ p, H p = none → Q (.ref p) (upd H p (.lst vs)) := fun p hp =>
  q _ β _ (.laid hp) (rs.laid hp) (RD.newL rs hp r)
theorem PostE.placeL {Q : VK} {vs : List V} (q : PostE K β H (S ++ [.lst ds]) (.loc S.length) Q) (rs : RS K β H S) (r : RDs K β H ds vs) : ∀ p, H p = none → Q (.ref p) (upd H p (.lst vs)) := fun p hp =>
  q _ _ _ (.place rs hp) (rs.place hp (.lst r)) (.loc (by unfold bset; rw [if_pos rfl]))
end

/-! ### syntax -/
def GoE (X : Cx) (e : Expr) : TE := fun σ H Q => ∀ pins s, Inv X pins σ H s → wpAny (model X.prog X.w) X.A (eval e X.env) (EP X pins σ Q) X.xe s
def GoT (X : Cx) (e : Expr) : TT := fun σ H Q => ∀ pins s, Inv X pins σ H s → wpAny (model X.prog X.w) X.A (isTrue e X.env (eval e X.env)) (TP X pins σ Q) X.xe s
def GoA (X : Cx) (es : List Expr) : TA := fun σ H Q => ∀ pos pins s, Inv X pins σ H s → wpAny (model X.prog X.w) X.A (spliced (backTo pos (starEach es X.env))) (AP X pins σ Q) X.xe s
def GoS (X : Cx) (st : Stmt) : TS := fun N σ H => ∀ pins s, Inv X pins σ H s → wpAny (model X.prog X.w) X.A (exec st X.env) (SP X pins N) X.xe s
def GoSs (X : Cx) (st : List Stmt) : TS := fun N σ H => ∀ pins s, Inv X pins σ H s → wpAny (model X.prog X.w) X.A (execs st X.env) (SP X pins N) X.xe s
structure DE (X : Cx) (e : Expr) (f : FE) : Prop where
  run : RdE X.K (GoE X e) f
structure DT (X : Cx) (e : Expr) (f : FT) : Prop where
  run : RdT X.K (GoT X e) f
structure DA (X : Cx) (es : List Expr) (f : FA) : Prop where
  run : RdA X.K (GoA X es) f
structure DS (X : Cx) (st : Stmt) (f : FS) : Prop where
  run : RdS X.K (GoS X st) f
structure DSs (X : Cx) (st : List Stmt) (f : FS) : Prop where
  run : RdS X.K (GoSs X st) f
section
variable {X : Cx} {e : Expr} {es : List Expr} {st : Stmt} {sts : List Stmt}
theorem goE : PE X e (GoE X e) := ⟨fun pins s _ _ _ I h => h pins s I⟩
theorem goT : PT X e (GoT X e) := ⟨fun pins s _ _ _ I h => h pins s I⟩
theorem goA : PA X es (GoA X es) := ⟨fun pos pins s _ _ _ I h => h pos pins s I⟩
theorem goS : PS X st (GoS X st) := ⟨fun pins s _ _ _ I h => h pins s I⟩
theorem goSs : PSs X sts (GoSs X sts) := ⟨fun pins s _ _ _ I h => h pins s I⟩
theorem de_of {t : TE} {f : FE} (h : PE X e t) (r : RdE X.K t f) : DE X e f := ⟨fun σ β H env S d S' Q re rs hf q pins s I => h.run pins s σ H Q I (r σ β H env S d S' Q re rs hf q)⟩
theorem dt_of {t : TT} {f : FT} (h : PT X e t) (r : RdT X.K t f) : DT X e f := ⟨fun σ β H env S d S' Q re rs hf q pins s I => h.run pins s σ H Q I (r σ β H env S d S' Q re rs hf q)⟩
theorem da_of {t : TA} {f : FA} (h : PA X es t) (r : RdA X.K t f) : DA X es f := ⟨fun σ β H env S d S' Q re rs hf q pos pins s I => h.run pos pins s σ H Q I (r σ β H env S d S' Q re rs hf q)⟩
theorem ds_of {t : TS} {f : FS} (h : PS X st t) (r : RdS X.K t f) : DS X st f := ⟨fun σ β H env S d S' N re rs hf q pins s I => h.run pins s σ H N I (r σ β H env S d S' N re rs hf q)⟩
theorem dss_of {t : TS} {f : FS} (h : PSs X sts t) (r : RdS X.K t f) : DSs X sts f := ⟨fun σ β H env S d S' N re rs hf q pins s I => h.run pins s σ H N I (r σ β H env S d S' N re rs hf q)⟩
theorem DSs.pss {f : FS} (h : DSs X sts f) : ∃ t, PSs X sts t ∧ RdS X.K t f := ⟨_, goSs, h.run⟩
end

/-! ### names and constants -/
def fVar (i : Nat) : FE := fun env S => match env[i]? with
  | some (some d) => some (d, S)
  | _ => none
def fC (d : D) : FE := fun _ S => some (d, S)
section
variable {X : Cx} {pos : Pos}
theorem rd_var {K : PySem.W.Frag} {i : Nat} : RdE K (tVar i) (fVar i) := by
  intro σ β H env S d S' Q re rs hf q
  unfold fVar at hf
  split at hf
  · rename_i d' hd
    cases hf
    obtain ⟨v, e, r⟩ := re.get i _ hd
    exact ⟨v, e, q.now rs r⟩
  · cases hf
theorem de_var {i : Nat} {x : Str} (hN : X.N[i]? = some x := by rfl) (hv : Vis X.env.scope x := by first | exact Or.inl rfl | exact Or.inr (Or.inl rfl) | exact Or.inr (Or.inr rfl)) (hd : (x == ("__debug__" : Str)) = false := by decide)
    (hcd : (x == ("__classdict__" : Str)) = false := by decide) : DE X (.Name x pos) (fVar i) := de_of (pe_var hN hv hd hcd) rd_var
theorem rd_c {K : PySem.W.Frag} {v : V} {d : D} (h : ∀ β H, RD K β H d v) : RdE K (tC v) (fC d) := by
  intro σ β H env S d' S' Q re rs hf q
  cases hf
  exact q.now rs (h _ _)
theorem de_int {i : Int} {j : Nat} : DE X (.Constant (.int i) j pos) (fC (.int i)) := de_of pe_int (rd_c fun _ _ => .int i)
theorem de_bl {b : Bool} {j : Nat} : DE X (.Constant (.bool b) j pos) (fC (.bl b)) := de_of pe_bl (rd_c fun _ _ => .bl b)
theorem de_non {j : Nat} : DE X (.Constant .none j pos) (fC .non) := de_of pe_non (rd_c fun _ _ => .non)
theorem de_str {x : Str} {j : Nat} : DE X (.Constant (.str x) j pos) (fC (.str x)) := de_of pe_str (rd_c fun _ _ => .str x)
/-- a module's constant -/
theorem de_glob {x : Str} {v : V} {d : D} {u : Value} (hm : X.mg x = some u) (r : RelV v u) (h : ∀ β H, RD X.K β H d v) (hg : Gl X x := by rfl) (hd : (x == ("__debug__" : Str)) = false := by decide) : DE X (.Name x pos) (fC d) :=
  de_of (pe_glob hg hm r hd) (rd_c h)
theorem de_bltn {x : Str} {v : V} {u : Value} (hm : X.mg x = none) (hv : bootBuiltins x = some u) (r : RelV v u) (hg : Gl X x := by rfl) (hn : x ≠ "__name__" := by decide) (hd : (x == ("__debug__" : Str)) = false := by decide) : DE X (.Name x pos) (fC (.raw v)) :=
  de_of (pe_bltn hg hm hv r hn hd) (rd_c fun _ _ => .raw v)
end

/-! ### operators -/
def fOp (o : F2) (fa fb : FE) : FE := fun env S => bnd (fa env S) fun x S1 => bnd (fb env S1) fun y S2 => o x y S2
def fUn (o : F1) (fa : FE) : FE := fun env S => bnd (fa env S) fun x S1 => o x S1
section
variable {X : Cx} {K : PySem.W.Frag} {pos : Pos} {a b c : Expr} {fa fb fc : FE} {ta tb tc : TE} {r r' : R2} {o o' : F2}
theorem rd_op (hr : Rd2 K r o) (ha : RdE K ta fa) (hb : RdE K tb fb) : RdE K (tOp r ta tb) (fOp o fa fb) := by
  intro σ β H env S d S' Q re rs hf q
  obtain ⟨x, S1, e1, hf⟩ := bnd_inv hf
  obtain ⟨y, S2, e2, hf⟩ := bnd_inv hf
  refine ha σ β H env S x S1 _ re rs e1 fun v β1 H1 st1 rs1 r1 => ?_
  refine hb σ β1 H1 env S1 y S2 _ (re.step st1) rs1 e2 fun u β2 H2 st2 rs2 r2 => ?_
  exact hr β2 H2 S2 x y v u d S' Q rs2 (RD.step st2 _ _ r1) r2 hf ((q.step st1).step st2)
theorem rd_un {r : V → Hp → VK → Prop} {o : F1} (hr : Rd1 K r o) (ha : RdE K ta fa) : RdE K (tUn r ta) (fUn o fa) := by
  intro σ β H env S d S' Q re rs hf q
  obtain ⟨x, S1, e1, hf⟩ := bnd_inv hf
  refine ha σ β H env S x S1 _ re rs e1 fun v β1 H1 st1 rs1 r1 => ?_
  exact hr β1 H1 S1 x v d S' Q rs1 r1 hf (q.step st1)
theorem de_op {op : Operator} (ho : OpR X (binaryOp op) r) (hr : Rd2 X.K r o) (ha : DE X a fa) (hb : DE X b fb) : DE X (.BinOp a op b pos) (fOp o fa fb) := de_of (pe_op ho goE goE) (rd_op hr ha.run hb.run)
theorem de_un {op : UnaryOp} {r : V → Hp → VK → Prop} {o : F1} (ho : UnR X (unaryOp op) r) (hr : Rd1 X.K r o) (ha : DE X a fa) : DE X (.UnaryOp op a pos) (fUn o fa) := de_of (pe_un ho goE) (rd_un hr ha.run)
theorem de_cmp {op : CmpOp} (ho : OpR X (compareOp op) r) (hr : Rd2 X.K r o) (ha : DE X a fa) (hb : DE X b fb) (hm : behindInMarks op b = false := by first | exact nomark _ | rfl) : DE X (.Compare a [op] [b] pos) (fOp o fa fb) := de_of (pe_cmpR ho goE goE hm) (rd_op hr ha.run hb.run)
theorem Rd2.or (h : Rd2 K r o) (h' : Rd2 K r' o') : Rd2 K (fun x y H Q => r x y H Q ∨ r' x y H Q) (fun x y S => (o x y S).or (o' x y S)) := by
  intro β H S x y v u d S' Q rs r1 r2 hf q
  have hf : (o x y S).or (o' x y S) = some (d, S') := hf
  cases e : o x y S with
  | some p =>
    rw [e] at hf
    exact .inl (h β H S x y v u d S' Q rs r1 r2 (by rw [e]; exact hf) q)
  | none =>
    rw [e] at hf
    exact .inr (h' β H S x y v u d S' Q rs r1 r2 hf q)

/-! ### tests -/
def asB (x : Option (D × Store)) : Option (Bool × Store) := match x with
  | some (.bl b, S) => some (b, S)
  | _ => none
theorem asB_inv {x : Option (D × Store)} {b : Bool} {S : Store} (h : asB x = some (b, S)) : x = some (.bl b, S) := by
  unfold asB at h
  split at h
  · cases h; rfl
  · cases h
def fB (f : FE) : FT := fun env S => asB (f env S)
theorem rd_B {f : FE} {t : TE} (h : RdE K t f) : RdT K (tB t) (fB f) := by
  intro σ β H env S d S' Q re rs hf q
  refine h σ β H env S (.bl d) S' _ re rs (asB_inv hf) fun v β1 H1 st1 rs1 r1 => ?_
  cases r1
  exact ⟨d, rfl, q β1 H1 st1 rs1⟩
theorem rd_test {f : FE} {t : TE} (h : RdE K t f) : RdT K (tTest t) (fB f) := by
  intro σ β H env S d S' Q re rs hf q
  refine h σ β H env S (.bl d) S' _ re rs (asB_inv hf) fun v β1 H1 st1 rs1 r1 => ?_
  cases r1
  exact ⟨d, rfl, q β1 H1 st1 rs1⟩
theorem dt_cmp {op : CmpOp} (ho : OpR X (compareOp op) r) (hr : Rd2 X.K r o) (ha : DE X a fa) (hb : DE X b fb) (hm : behindInMarks op b = false := by first | exact nomark _ | rfl) : DT X (.Compare a [op] [b] pos) (fB (fOp o fa fb)) :=
  dt_of (pt_cmpR ho goE goE hm) (rd_test (rd_op hr ha.run hb.run))
theorem dt_val {f : FE} (h : DE X a f) (he : ∀ whole, isTrue a X.env whole = (do let v ← whole; standAt a.pos; holding [v] (truthy v)) := by intro _; rfl) : DT X a (fB f) := dt_of (pt_val goE he) (rd_B h.run)
/-- a value's truth -/
def truD (S : Store) : D → Option Bool
  | .non => some false
  | .bl b => some b
  | .int i => some (i != 0)
  | .str y => if y.length ≤ sizeLine then some ((y.length : Int) != 0) else none
  | .tup ds => some (!ds.isEmpty)
  | .lst ds => some (!ds.isEmpty)
  | .fro ds => some (!ds.isEmpty)
  | .loc n => match S[n]? with
    | some (.lst ds) => some (!ds.isEmpty)
    | some (.dic _ ds) => some (!ds.isEmpty)
    | _ => none
  | _ => none
def fTr (f : FE) : FT := fun env S => bnd (f env S) fun d S1 => (truD S1 d).map fun b => (b, S1)
theorem RDs.isEmpty {β : Bt} {H : Hp} {ds : List D} {vs : List V} (h : RDs K β H ds vs) : ds.isEmpty = vs.isEmpty := by
  cases h <;> rfl
theorem rd_tr {t : TE} {f : FE} (h : RdE K t f) : RdT K (fun σ H Q => t σ H fun x H' => ∃ k, TruV K x H' k ∧ Q k H') (fTr f) := by
  intro σ β H env S b S' Q re rs hf q
  obtain ⟨x, S1, e1, hf⟩ := bnd_inv hf
  refine h σ β H env S x S1 _ re rs e1 fun v β1 H1 st1 rs1 r1 => ?_
  cases e : truD S1 x with
  | none => rw [e] at hf; cases hf
  | some k =>
    rw [e] at hf
    cases hf
    clear e1
    refine ⟨b, ?_, q β1 H1 st1 rs1⟩
    cases r1 with
    | non => cases e; rfl
    | bl k => cases e; rfl
    | int i => cases e; rfl
    | str y =>
      have e : (if y.length ≤ sizeLine then some ((y.length : Int) != 0) else none) = some b := e
      split at e
      · rename_i hl
        cases e
        exact ⟨hl, rfl⟩
      · cases e
    | tup h1 h2 h3 =>
      cases e
      exact .inr (.inl ⟨_, .inl h1, by rw [h3.isEmpty]⟩)
    | ktup h1 h3 =>
      cases e
      exact .inr (.inl ⟨_, .inr h1, by rw [h3.isEmpty]⟩)
    | lst h1 h2 h3 =>
      cases e
      exact .inl ⟨_, .inl (.inl h1), by rw [h3.isEmpty]⟩
    | fro h1 h2 h3 =>
      cases e
      exact .inl ⟨_, .inl h1, by rw [h3.isEmpty]⟩
    | kfro h1 h3 =>
      cases e
      exact .inl ⟨_, .inr h1, by rw [h3.isEmpty]⟩
    | dic => cases e
    | raw => cases e
    | loc hl =>
      obtain ⟨o, u, g1, g2, g3⟩ := rs1.ne hl
      unfold truD at e
      simp only [g1] at e
      cases g3 with
      | lst h3 =>
        cases e
        exact .inl ⟨_, .inl (.inl g2), by rw [h3.isEmpty]⟩
      | dic h4 h3 =>
        cases e
        refine .inr (.inr ⟨_, g2, ?_⟩)
        rw [h3.isEmpty]
        simp
      | ins => cases e
theorem dt_truth {f : FE} (h : DE X a f) (he : ∀ whole, isTrue a X.env whole = (do let v ← whole; standAt a.pos; holding [v] (truthy v)) := by intro _; rfl) : DT X a (fTr f) := dt_of (pt_truth goE he) (rd_tr h.run)
def fAnd (f g : FT) : FT := fun env S => bnd (f env S) fun c S1 => if c then g env S1 else some (false, S1)
def fOr (f g : FT) : FT := fun env S => bnd (f env S) fun c S1 => if c then some (true, S1) else g env S1
def fNot (f : FT) : FT := fun env S => bnd (f env S) fun c S1 => some (!c, S1)
variable {f g : FT} {t u : TT} {rest : List Expr}
theorem rd_and (h1 : RdT K t f) (h2 : RdT K u g) : RdT K (tAnd t u) (fAnd f g) := by
  intro σ β H env S b S' Q re rs hf q
  obtain ⟨c, S1, e1, hf⟩ := bnd_inv hf
  refine h1 σ β H env S c S1 _ re rs e1 fun β1 H1 st1 rs1 => ?_
  cases c with
  | true =>
    show u σ H1 Q
    exact h2 σ β1 H1 env S1 b S' Q (re.step st1) rs1 hf (q.step st1)
  | false =>
    cases hf
    exact q β1 H1 st1 rs1
theorem rd_or (h1 : RdT K t f) (h2 : RdT K u g) : RdT K (tOr t u) (fOr f g) := by
  intro σ β H env S b S' Q re rs hf q
  obtain ⟨c, S1, e1, hf⟩ := bnd_inv hf
  refine h1 σ β H env S c S1 _ re rs e1 fun β1 H1 st1 rs1 => ?_
  cases c with
  | false =>
    show u σ H1 Q
    exact h2 σ β1 H1 env S1 b S' Q (re.step st1) rs1 hf (q.step st1)
  | true =>
    cases hf
    exact q β1 H1 st1 rs1
theorem rd_not (h1 : RdT K t f) : RdT K (tNot t) (fNot f) := by
  intro σ β H env S b S' Q re rs hf q
  obtain ⟨c, S1, e1, hf⟩ := bnd_inv hf
  refine h1 σ β H env S c S1 _ re rs e1 fun β1 H1 st1 rs1 => ?_
  cases hf
  exact q β1 H1 st1 rs1
/-- a chain of and, or -/
def DW (X : Cx) (e : Expr) (f : FT) : Prop := ∃ t, PW X e t ∧ RdT X.K t f
theorem dw_and1 (h : DT X a f) : DW X (.BoolOp .And [a] pos) f := ⟨_, pw_and1 goT, h.run⟩
theorem dw_or1 (h : DT X a f) : DW X (.BoolOp .Or [a] pos) f := ⟨_, pw_or1 goT, h.run⟩
theorem dw_and (h : DT X a f) (h2 : DW X (.BoolOp .And (b :: rest) pos) g) : DW X (.BoolOp .And (a :: b :: rest) pos) (fAnd f g) := by
  obtain ⟨t, p, r⟩ := h2
  exact ⟨_, pw_and goT p, rd_and h.run r⟩
theorem dw_or (h : DT X a f) (h2 : DW X (.BoolOp .Or (b :: rest) pos) g) : DW X (.BoolOp .Or (a :: b :: rest) pos) (fOr f g) := by
  obtain ⟨t, p, r⟩ := h2
  exact ⟨_, pw_or goT p, rd_or h.run r⟩
theorem dt_w (h : DW X a f) : DT X a f := by
  obtain ⟨t, p, r⟩ := h
  exact dt_of p.pt r
theorem dt_not (h : DT X a f) : DT X (.UnaryOp .Not a pos) (fNot f) := dt_of (pt_not goT) (rd_not h.run)

/-! ### and, or, not, if as values -/
def fAndV (f g : FE) : FE := fun env S => bnd (asB (f env S)) fun c S1 => if c then g env S1 else some (.bl false, S1)
def fOrV (f g : FE) : FE := fun env S => bnd (asB (f env S)) fun c S1 => if c then some (.bl true, S1) else g env S1
def fNotV (f : FE) : FE := fun env S => bnd (asB (f env S)) fun c S1 => some (.bl (!c), S1)
def fIf (c : FT) (f g : FE) : FE := fun env S => bnd (c env S) fun c S1 => if c then f env S1 else g env S1
theorem rd_andV (h1 : RdE K ta fa) (h2 : RdE K tb fb) : RdE K (tAndV ta tb) (fAndV fa fb) := by
  intro σ β H env S d S' Q re rs hf q
  obtain ⟨c, S1, e1, hf⟩ := bnd_inv hf
  refine h1 σ β H env S (.bl c) S1 _ re rs (asB_inv e1) fun v β1 H1 st1 rs1 r1 => ?_
  cases r1
  refine ⟨c, rfl, ?_⟩
  cases c with
  | true => exact h2 σ β1 H1 env S1 d S' Q (re.step st1) rs1 hf (q.step st1)
  | false =>
    cases hf
    exact q _ β1 H1 st1 rs1 (.bl false)
theorem rd_orV (h1 : RdE K ta fa) (h2 : RdE K tb fb) : RdE K (tOrV ta tb) (fOrV fa fb) := by
  intro σ β H env S d S' Q re rs hf q
  obtain ⟨c, S1, e1, hf⟩ := bnd_inv hf
  refine h1 σ β H env S (.bl c) S1 _ re rs (asB_inv e1) fun v β1 H1 st1 rs1 r1 => ?_
  cases r1
  refine ⟨c, rfl, ?_⟩
  cases c with
  | false => exact h2 σ β1 H1 env S1 d S' Q (re.step st1) rs1 hf (q.step st1)
  | true =>
    cases hf
    exact q _ β1 H1 st1 rs1 (.bl true)
theorem de_one {op : BoolOp} (h : DE X a fa) : DE X (.BoolOp op [a] pos) fa := de_of (pe_one goE) h.run
theorem de_and (h1 : DE X a fa) (h2 : DE X (.BoolOp .And (b :: rest) pos) fb) : DE X (.BoolOp .And (a :: b :: rest) pos) (fAndV fa fb) := de_of (pe_and goE goE) (rd_andV h1.run h2.run)
theorem de_or (h1 : DE X a fa) (h2 : DE X (.BoolOp .Or (b :: rest) pos) fb) : DE X (.BoolOp .Or (a :: b :: rest) pos) (fOrV fa fb) := de_of (pe_or goE goE) (rd_orV h1.run h2.run)
theorem de_not (h1 : DE X a fa) : DE X (.UnaryOp .Not a pos) (fNotV fa) := de_of (pe_not goE) (by
  intro σ β H env S d S' Q re rs hf q
  obtain ⟨c, S1, e1, hf⟩ := bnd_inv hf
  refine h1.run σ β H env S (.bl c) S1 _ re rs (asB_inv e1) fun v β1 H1 st1 rs1 r1 => ?_
  cases r1
  cases hf
  exact ⟨c, rfl, q _ β1 H1 st1 rs1 (.bl _)⟩)
theorem de_if (hc : DT X c f) (h1 : DE X a fa) (h2 : DE X b fb) : DE X (.IfExp c a b pos) (fIf f fa fb) := de_of (pe_ifExp goT goE goE) (by
  intro σ β H env S d S' Q re rs hf q
  obtain ⟨k, S1, e1, hf⟩ := bnd_inv hf
  refine hc.run σ β H env S k S1 _ re rs e1 fun β1 H1 st1 rs1 => ?_
  cases k with
  | true => exact h1.run σ β1 H1 env S1 d S' Q (re.step st1) rs1 hf (q.step st1)
  | false => exact h2.run σ β1 H1 env S1 d S' Q (re.step st1) rs1 hf (q.step st1))
/-- a < b < c -/
def fChain (o o' : F2) (fa fb fc : FE) : FE := fun env S => bnd (fa env S) fun x S1 => bnd (fb env S1) fun y S2 => bnd (asB (o x y S2)) fun k S3 => if k then bnd (fc env S3) fun z S4 => o' y z S4 else some (.bl false, S3)
theorem rd_chain (hr : Rd2 K r o) (hr' : Rd2 K r' o') (ha : RdE K ta fa) (hb : RdE K tb fb) (hc : RdE K tc fc) : RdE K (tChain r r' ta tb tc) (fChain o o' fa fb fc) := by
  intro σ β H env S d S' Q re rs hf q
  obtain ⟨x, S1, e1, hf⟩ := bnd_inv hf
  obtain ⟨y, S2, e2, hf⟩ := bnd_inv hf
  obtain ⟨k, S3, e3, hf⟩ := bnd_inv hf
  refine ha σ β H env S x S1 _ re rs e1 fun v β1 H1 st1 rs1 r1 => ?_
  refine hb σ β1 H1 env S1 y S2 _ (re.step st1) rs1 e2 fun u β2 H2 st2 rs2 r2 => ?_
  refine hr β2 H2 S2 x y v u (.bl k) S3 _ rs2 (RD.step st2 _ _ r1) r2 (asB_inv e3) fun w β3 H3 st3 rs3 r3 => ?_
  cases r3
  refine ⟨k, rfl, ?_⟩
  cases k with
  | true =>
    obtain ⟨z, S4, e4, hf⟩ := bnd_inv hf
    refine hc σ β3 H3 env S3 z S4 _ (((re.step st1).step st2).step st3) rs3 e4 fun w' β4 H4 st4 rs4 r4 => ?_
    exact hr' β4 H4 S4 y z u w' d S' Q rs4 (RD.step st4 _ _ (RD.step st3 _ _ r2)) r4 hf ((((q.step st1).step st2).step st3).step st4)
  | false =>
    cases hf
    exact q _ β3 H3 ((st1.trans st2).trans st3) rs3 (.bl false)
theorem de_chain {op op' : CmpOp} (ho : OpR X (compareOp op) r) (ho' : OpR X (compareOp op') r') (hr : Rd2 X.K r o) (hr' : Rd2 X.K r' o') (ha : DE X a fa) (hb : DE X b fb) (hc : DE X c fc)
    (hm : lastMarks [op, op'] [b, c] = false := by with_unfolding_all rfl) : DE X (.Compare a [op, op'] [b, c] pos) (fChain o o' fa fb fc) := de_of (pe_chain ho ho' goE goE goE hm) (rd_chain hr hr' ha.run hb.run hc.run)
theorem dt_chain {op op' : CmpOp} (ho : OpR X (compareOp op) r) (ho' : OpR X (compareOp op') r') (hr : Rd2 X.K r o) (hr' : Rd2 X.K r' o') (ha : DE X a fa) (hb : DE X b fb) (hc : DE X c fc)
    (hm : lastMarks [op, op'] [b, c] = false := by with_unfolding_all rfl) : DT X (.Compare a [op, op'] [b, c] pos) (fB (fChain o o' fa fb fc)) := dt_of (pt_chain ho ho' goE goE goE hm) (rd_test (rd_chain hr hr' ha.run hb.run hc.run))
end

/-! ### which arguments are starred -/
def isStar : Expr → Bool
  | .Starred _ _ => true
  | _ => false
def noStars : List Expr → Bool
  | [] => true
  | e :: es => !isStar e && noStars es
theorem st_cons {e : Expr} {es : List Expr} {env : PySem.Env} (h : isStar e = false) : starEach (e :: es) env = (false, eval e env) :: starEach es env := by
  cases e <;> first
    | rfl
    | cases h
theorem st_one {e : Expr} {env : PySem.Env} (h : isStar e = false) : starEach [e] env = [(false, eval e env)] := st_cons h
theorem st_plain {pos : Pos} {env : PySem.Env} : ∀ {es : List Expr}, noStars es = true → (backTo pos (starEach es env)).any (·.1) = false
  | [], _ => rfl
  | e :: es, h => by
    have h' : (!isStar e && noStars es) = true := h
    simp only [Bool.and_eq_true, Bool.not_eq_true'] at h'
    rw [st_cons h'.1]
    show (false || (backTo pos (starEach es env)).any (·.1)) = false
    rw [st_plain h'.2]
    rfl
/-! ### arguments, displays -/
def fNil : FA := fun _ S => some ([], S)
def fCons (f : FE) (g : FA) : FA := fun env S => bnd (f env S) fun x S1 => bnd (g env S1) fun xs S2 => some (x :: xs, S2)
def fTup (g : FA) : FE := fun env S => bnd (g env S) fun xs S1 => if xs.length ≤ sizeLine then some (.tup xs, S1) else none
def fLst (g : FA) : FE := fun env S => bnd (g env S) fun xs S1 => if xs.length ≤ sizeLine then some (.lst xs, S1) else none
/-- a list that will be changed: a new place -/
def fLstM (g : FA) : FE := fun env S => bnd (g env S) fun xs S1 => if xs.length ≤ sizeLine then some (.loc S1.length, S1 ++ [.lst xs]) else none
section
variable {X : Cx} {K : PySem.W.Frag} {pos : Pos} {e : Expr} {es : List Expr} {f : FE} {g : FA} {t : TE} {u : TA}
theorem rd_nil : RdA K tNil fNil := by
  intro σ β H env S d S' Q re rs hf q
  cases hf
  exact q [] β H .refl rs .nil
theorem rd_cons (h1 : RdE K t f) (h2 : RdA K u g) : RdA K (tCons t u) (fCons f g) := by
  intro σ β H env S d S' Q re rs hf q
  obtain ⟨x, S1, e1, hf⟩ := bnd_inv hf
  obtain ⟨xs, S2, e2, hf⟩ := bnd_inv hf
  cases hf
  refine h1 σ β H env S x S1 _ re rs e1 fun v β1 H1 st1 rs1 r1 => ?_
  refine h2 σ β1 H1 env S1 xs S' _ (re.step st1) rs1 e2 fun vs β2 H2 st2 rs2 r2 => ?_
  exact q (v :: vs) β2 H2 (st1.trans st2) rs2 (.cons (RD.step st2 _ _ r1) r2)
theorem da_nil : DA X [] fNil := da_of pa_nil rd_nil
theorem da_consS (h1 : DE X e f) (h2 : DA X es g) (hs : starEach (e :: es) X.env = (false, eval e X.env) :: starEach es X.env := by rfl) : DA X (e :: es) (fCons f g) := da_of (pa_cons goE goA hs) (rd_cons h1.run h2.run)
theorem da_cons (h1 : DE X e f) (h2 : DA X es g) (hs : isStar e = false := by rfl) : DA X (e :: es) (fCons f g) := da_consS h1 h2 (st_cons hs)
theorem rd_tup (h : RdA K u g) : RdE K (tTup u) (fTup g) := by
  intro σ β H env S d S' Q re rs hf q
  obtain ⟨xs, S1, e1, hf⟩ := bnd_inv hf
  split at hf
  · rename_i hl
    cases hf
    refine h σ β H env S xs S' _ re rs e1 fun vs β1 H1 st1 rs1 r1 => ?_
    exact ⟨by rw [← r1.length]; exact hl, (q.step st1).newT rs1 r1⟩
  · cases hf
theorem rd_lst (h : RdA K u g) : RdE K (tLst u) (fLst g) := by
  intro σ β H env S d S' Q re rs hf q
  obtain ⟨xs, S1, e1, hf⟩ := bnd_inv hf
  split at hf
  · rename_i hl
    cases hf
    refine h σ β H env S xs S' _ re rs e1 fun vs β1 H1 st1 rs1 r1 => ?_
    exact ⟨by rw [← r1.length]; exact hl, (q.step st1).newL rs1 r1⟩
  · cases hf
theorem rd_lstM (h : RdA K u g) : RdE K (tLst u) (fLstM g) := by
  intro σ β H env S d S' Q re rs hf q
  obtain ⟨xs, S1, e1, hf⟩ := bnd_inv hf
  split at hf
  · rename_i hl
    cases hf
    refine h σ β H env S xs S1 _ re rs e1 fun vs β1 H1 st1 rs1 r1 => ?_
    exact ⟨by rw [← r1.length]; exact hl, (q.step st1).placeL rs1 r1⟩
  · cases hf
theorem de_tup {k : Nat} (h : DA X es g) : DE X (.Tuple es k pos) (fTup g) := de_of (pe_tup goA) (rd_tup h.run)
theorem de_lst (h : DA X es g) : DE X (.List es pos) (fLst g) := de_of (pe_lst goA) (rd_lst h.run)
theorem de_lstM (h : DA X es g) : DE X (.List es pos) (fLstM g) := de_of (pe_lst goA) (rd_lstM h.run)
end

/-! ### statements -/
def sNil : FS := fun env S => some (.nx env, S)
def sCons (f g : FS) : FS := fun env S => bnd (f env S) fun r S1 => match r with
  | .nx e => g e S1
  | r => some (r, S1)
def sRet (f : FE) : FS := fun env S => bnd (f env S) fun d S1 => some (.rt d, S1)
def sRetN : FS := fun _ S => some (.rt .non, S)
def sDrop (f : FE) : FS := fun env S => bnd (f env S) fun _ S1 => some (.nx env, S1)
def sIf (c : FT) (f g : FS) : FS := fun env S => bnd (c env S) fun b S1 => if b then f env S1 else g env S1
def sSet (i : Nat) (f : FE) : FS := fun env S => bnd (f env S) fun d S1 => some (.nx (env.set i (some d)), S1)
def sBreak : FS := fun env S => some (.bk env, S)
def sCont : FS := fun env S => some (.ct env, S)
section
variable {X : Cx} {K : PySem.W.Frag} {pos : Pos} {e : Expr} {st : Stmt} {sts : List Stmt} {f g : FS} {t u : TS} {fe : FE} {te : TE}
theorem rd_next : RdS K tNext sNil := by
  intro σ β H env S d S' N re rs hf q
  cases hf
  exact q σ β H .refl rs re
theorem rd_seq (h1 : RdS K t f) (h2 : RdS K u g) : RdS K (tSeq t u) (sCons f g) := by
  intro σ β H env S d S' N re rs hf q
  obtain ⟨r, S1, e1, hf⟩ := bnd_inv hf
  refine h1 σ β H env S r S1 _ re rs e1 ?_
  cases r with
  | nx e' => exact fun σ1 β1 H1 st1 rs1 re1 => h2 σ1 β1 H1 e' S1 d S' N re1 rs1 hf (q.step st1)
  | rt x => cases hf; exact q
  | bk e' => cases hf; exact q
  | ct e' => cases hf; exact q
theorem dss_nil : DSs X [] sNil := dss_of pss_nil rd_next
theorem dss_cons (h1 : DS X st f) (h2 : DSs X sts g) : DSs X (st :: sts) (sCons f g) := dss_of (pss_cons goS goSs) (rd_seq h1.run h2.run)
theorem dss_one (h1 : DS X st f) : DSs X [st] f := dss_of (pss_one goS) h1.run
theorem ds_pass : DS X (.Pass pos) sNil := ds_of ps_pass rd_next
theorem ds_doc {x : Str} {j : Nat} {pos' : Pos} : DS X (.Expr (.Constant (.str x) j pos) pos') sNil := ds_of ps_doc rd_next
theorem ds_ret (h : DE X e fe) : DS X (.Return (some e) pos) (sRet fe) := ds_of (ps_ret goE) (by
  intro σ β H env S d S' N re rs hf q
  obtain ⟨x, S1, e1, hf⟩ := bnd_inv hf
  cases hf
  exact h.run σ β H env S x S' N.rt re rs e1 q)
theorem ds_retN : DS X (.Return none pos) sRetN := ds_of ps_retN (by
  intro σ β H env S d S' N re rs hf q
  cases hf
  exact q _ β H .refl rs .non)
theorem ds_expr (h : DE X e fe) (hs : swapsWith e none pos.line X.env = pure false := by rfl) : DS X (.Expr e pos) (sDrop fe) := ds_of (ps_expr goE hs) (by
  intro σ β H env S d S' N re rs hf q
  obtain ⟨x, S1, e1, hf⟩ := bnd_inv hf
  cases hf
  refine h.run σ β H env S x S' _ re rs e1 fun v β1 H1 st1 rs1 r1 => ?_
  exact q σ β1 H1 st1 rs1 (re.step st1))
theorem ds_if {c : Expr} {a b : List Stmt} {fc : FT} (hc : DT X c fc) (ha : DSs X a f) (hb : DSs X b g) : DS X (.If c a b pos) (sIf fc f g) := ds_of (ps_if goT goSs goSs) (by
  intro σ β H env S d S' N re rs hf q
  obtain ⟨k, S1, e1, hf⟩ := bnd_inv hf
  refine hc.run σ β H env S k S1 _ re rs e1 fun β1 H1 st1 rs1 => ?_
  cases k with
  | true => exact ha.run σ β1 H1 env S1 d S' N (re.step st1) rs1 hf (q.step st1)
  | false => exact hb.run σ β1 H1 env S1 d S' N (re.step st1) rs1 hf (q.step st1))
theorem ds_set {i : Nat} {x : Str} {pos' : Pos} (hN : X.N.Nodup) (he : DE X e fe) (hi : X.N[i]? = some x := by rfl) (hx : Loc X.env.scope x := by first | exact Or.inl rfl | exact Or.inr rfl) (hs : swapsWith e (some (.Name x pos')) pos.line X.env = pure false := by rfl)
    (hf : X.fn x = true ∨ X.env.scope.names.lookup x = some .local := by first | exact .inl rfl | exact .inr rfl | assumption) : DS X (.Assign [.Name x pos'] e pos) (sSet i fe) := ds_of (ps_set hN hi hx goE hs hf) (by
  intro σ β H env S d S' N re rs hf q
  obtain ⟨x, S1, e1, hf⟩ := bnd_inv hf
  cases hf
  refine he.run σ β H env S x S' _ re rs e1 fun v β1 H1 st1 rs1 r1 => ?_
  exact q _ β1 H1 st1 rs1 ((re.step st1).set r1))
theorem ds_break : DS X (.Break pos) sBreak := ds_of ps_break (by
  intro σ β H env S d S' N re rs hf q
  cases hf
  exact q σ β H .refl rs re)
theorem ds_continue : DS X (.Continue pos) sCont := ds_of ps_continue (by
  intro σ β H env S d S' N re rs hf q
  cases hf
  exact q σ β H .refl rs re)
end
end Mir

set_option Elab.async false
set_option linter.all false
set_option maxRecDepth 100000
set_option autoImplicit false
set_option maxHeartbeats 1000000
/-! Mir3: operations by values, subscripts, slices, what a loop walks, loops, comprehensions. -/
namespace Mir
open PySem L2

/-! ### ints -/
def oI (C : Int → Int → Bool) (g : Int → Int → D) : F2 := fun x y S => match x, y with
  | .int i, .int j => if C i j then some (g i j, S) else none
  | _, _ => none
theorem rd_I {K : PySem.W.Frag} {C : Int → Int → Bool} {P : Int → Int → Prop} {g : Int → Int → D} {gv : Int → Int → V} (hc : ∀ i j, C i j = true → P i j) (hg : ∀ i j β H, RD K β H (g i j) (gv i j)) : Rd2 K (rI P gv) (oI C g) := by
  intro β H S x y v u d S' Q rs r1 r2 hf q
  cases r1 with
  | int i =>
    cases r2 with
    | int j =>
      have hf : (if C i j then some (g i j, S) else none) = some (d, S') := hf
      split at hf
      · rename_i h
        cases hf
        exact ⟨i, j, rfl, rfl, hc i j h, q.now rs (hg i j β H)⟩
      · cases hf
    | _ => cases hf
  | _ => cases hf
theorem rd_I0 {K : PySem.W.Frag} {g : Int → Int → D} {gv : Int → Int → V} (hg : ∀ i j β H, RD K β H (g i j) (gv i j)) : Rd2 K (rI0 gv) (oI (fun _ _ => true) g) := by
  intro β H S x y v u d S' Q rs r1 r2 hf q
  obtain ⟨i, j, e1, e2, _, h⟩ := rd_I (C := fun _ _ => true) (P := fun _ _ => True) (fun _ _ _ => trivial) hg β H S x y v u d S' Q rs r1 r2 hf q
  exact ⟨i, j, e1, e2, h⟩
def oSub : F2 := oI (fun _ _ => true) fun i j => .int (i - j)
def oMul : F2 := oI (fun i j => Nat.ble i.natAbs 18446744073709551615 || Nat.ble j.natAbs 18446744073709551615) fun i j => .int (i * j)
def oDiv : F2 := oI (fun _ j => decide (j ≠ 0) && decide (j.natAbs < 1073741824)) fun i j => .int (i.fdiv j)
def oMod : F2 := oI (fun _ j => decide (j ≠ 0)) fun i j => .int (i.fmod j)
def oPow : F2 := oI (fun i j => decide (0 ≤ j) && decide (j ≤ 1000000) && decide (i.natAbs < 2 ^ 64)) fun i j => .int (i ^ j.toNat)
section
variable {X : Cx} {pos : Pos} {a b : Expr} {fa fb : FE}
theorem de_sub (ha : DE X a fa) (hb : DE X b fb) : DE X (.BinOp a .Sub b pos) (fOp oSub fa fb) := de_op op_sub (rd_I0 fun i j _ _ => .int (i - j)) ha hb
theorem de_mul (ha : DE X a fa) (hb : DE X b fb) : DE X (.BinOp a .Mult b pos) (fOp oMul fa fb) := de_op op_mul (rd_I (fun i j h => by
  rcases Bool.or_eq_true_iff.mp h with h | h
  · have := Nat.le_of_ble_eq_true h
    exact .inl (by omega)
  · have := Nat.le_of_ble_eq_true h
    exact .inr (by omega)) fun i j _ _ => .int (i * j)) ha hb
theorem de_div (ha : DE X a fa) (hb : DE X b fb) : DE X (.BinOp a .FloorDiv b pos) (fOp oDiv fa fb) := de_op op_fdivN (rd_I (fun i j h => by
  simp only [Bool.and_eq_true, decide_eq_true_eq] at h
  exact h) fun i j _ _ => .int (i.fdiv j)) ha hb
theorem de_mod (ha : DE X a fa) (hb : DE X b fb) : DE X (.BinOp a .Mod b pos) (fOp oMod fa fb) := de_op op_modN (rd_I (fun i j h => by
  simp only [decide_eq_true_eq] at h
  exact h) fun i j _ _ => .int (i.fmod j)) ha hb
theorem de_pow (ha : DE X a fa) (hb : DE X b fb) : DE X (.BinOp a .Pow b pos) (fOp oPow fa fb) := de_op op_pow (rd_I (fun i j h => by
  simp only [Bool.and_eq_true, decide_eq_true_eq] at h
  exact ⟨h.1.1, h.1.2, h.2⟩) fun i j _ _ => .int (i ^ j.toNat)) ha hb
def oNeg : F1 := fun x S => match x with
  | .int i => some (.int (-i), S)
  | _ => none
theorem de_neg (ha : DE X a fa) : DE X (.UnaryOp .USub a pos) (fUn oNeg fa) := de_un un_neg (by
  intro β H S x v d S' Q rs r1 hf q
  cases r1 with
  | int i => cases hf; exact ⟨i, rfl, q.now rs (.int _)⟩
  | _ => cases hf) ha

/-! ### order -/
def oCmp (p : Int → Int → Bool) (ps : Str → Str → Bool) : F2 := fun x y S => match x, y with
  | .int i, .int j => some (.bl (p i j), S)
  | .str i, .str j => some (.bl (ps i j), S)
  | _, _ => none
theorem rd_cmp2 {K : PySem.W.Frag} {p : Int → Int → Bool} {ps : Str → Str → Bool} : Rd2 K (fun x y H Q => rI0 (fun i j => .bl (p i j)) x y H Q ∨ (∃ i j, x = .str i ∧ y = .str j ∧ Q (.bl (ps i j)) H)) (oCmp p ps) := by
  intro β H S x y v u d S' Q rs r1 r2 hf q
  cases r1 with
  | int i =>
    cases r2 with
    | int j => cases hf; exact .inl ⟨i, j, rfl, rfl, q.now rs (.bl _)⟩
    | _ => cases hf
  | str i =>
    cases r2 with
    | str j => cases hf; exact .inr ⟨i, j, rfl, rfl, q.now rs (.bl _)⟩
    | _ => cases hf
  | _ => cases hf
abbrev strLt (i j : Str) : Bool := decide (i.cps.toList < j.cps.toList)
abbrev strLe (i j : Str) : Bool := decide (i.cps.toList ≤ j.cps.toList)
def oLt : F2 := oCmp (fun i j => decide (i < j)) strLt
theorem opr_lt : OpR X (compareOp .Lt) (fun x y H Q => rI0 (fun i j => .bl (decide (i < j))) x y H Q ∨ (∃ i j, x = .str i ∧ y = .str j ∧ Q (.bl (strLt i j)) H)) := op_lt.or op_lt_str
/-- ints alone -/
def oLe : F2 := oI (fun _ _ => true) fun i j => .bl (decide (i ≤ j))
def oGt : F2 := oI (fun _ _ => true) fun i j => .bl (decide (j < i))
def oGe : F2 := oI (fun _ _ => true) fun i j => .bl (decide (j ≤ i))
theorem rd_le {K : PySem.W.Frag} : Rd2 K (rI0 fun i j => .bl (decide (i ≤ j))) oLe := rd_I0 fun i j _ _ => .bl _
theorem rd_gt {K : PySem.W.Frag} : Rd2 K (rI0 fun i j => .bl (decide (j < i))) oGt := rd_I0 fun i j _ _ => .bl _
theorem rd_ge {K : PySem.W.Frag} : Rd2 K (rI0 fun i j => .bl (decide (j ≤ i))) oGe := rd_I0 fun i j _ _ => .bl _
end

/-! ### data of the library -/
mutual
def D.py : D → Option PyData
  | .non => some .none
  | .bl b => some (.bool b)
  | .int i => some (.int i)
  | .str x => some (.str x)
  | .tup ds => (D.pys ds).map .tuple
  | .lst ds => (D.pys ds).map .list
  | .fro ds => (D.pys ds).map .list
  | _ => none
def D.pys : List D → Option (List PyData)
  | [] => some []
  | d :: ds => (D.py d).bind fun p => (D.pys ds).map fun ps => p :: ps
end
/-- a place of the store, read -/
def rdS (S : Store) : D → D
  | .loc n => match S[n]? with
    | some (.lst ds) => .fro ds
    | _ => .loc n
  | d => d
section
variable {K : PySem.W.Frag} {β : Bt} {H : Hp}
mutual
theorem RD.dp : ∀ (d : D) (v : V) (p : PyData), RD K β H d v → d.py = some p → Dp K H v p
  | .non, _, _, h, e => by cases h; simp only [D.py] at e; cases e; exact .non
  | .bl _, _, _, h, e => by cases h; simp only [D.py] at e; cases e; exact .bl _
  | .int _, _, _, h, e => by cases h; simp only [D.py] at e; cases e; exact .int _
  | .str _, _, _, h, e => by cases h; simp only [D.py] at e; cases e; exact .str _
  | .tup ds, _, _, h, e => by
    simp only [D.py] at e
    obtain ⟨ps, e1, e2⟩ := Option.map_eq_some_iff.mp e
    subst e2
    obtain ⟨a, vs, rfl, h1, h2⟩ := h.sqt
    exact .tup h1 (RDs.dp ds vs ps h2 e1)
  | .lst ds, _, _, h, e => by
    simp only [D.py] at e
    obtain ⟨ps, e1, e2⟩ := Option.map_eq_some_iff.mp e
    subst e2
    obtain ⟨a, vs, rfl, h1, h2⟩ := h.sql
    exact .lst h1 (RDs.dp ds vs ps h2 e1)
  | .fro ds, _, _, h, e => by
    simp only [D.py] at e
    obtain ⟨ps, e1, e2⟩ := Option.map_eq_some_iff.mp e
    subst e2
    obtain ⟨a, vs, rfl, h1, h2⟩ := h.sqf
    exact .lst h1 (RDs.dp ds vs ps h2 e1)
  | .dic _ _, _, _, _, e => by simp only [D.py] at e; cases e
  | .loc _, _, _, _, e => by simp only [D.py] at e; cases e
  | .raw _, _, _, _, e => by simp only [D.py] at e; cases e
theorem RDs.dp : ∀ (ds : List D) (vs : List V) (ps : List PyData), RDs K β H ds vs → D.pys ds = some ps → DpAll K H vs ps
  | [], _, _, h, e => by cases h; simp only [D.pys] at e; cases e; exact .nil
  | d :: ds, _, _, h, e => by
    simp only [D.pys] at e
    obtain ⟨p, e1, e⟩ := Option.bind_eq_some_iff.mp e
    obtain ⟨ps, e2, e3⟩ := Option.map_eq_some_iff.mp e
    subst e3
    cases h with | cons h1 h2 => exact .cons (RD.dp d _ p h1 e1) (RDs.dp ds _ ps h2 e2)
end
/-- a list that is a place, read as it stands now -/
theorem RS.rd {S : Store} {d : D} {v : V} (h : RS K β H S) (r : RD K β H d v) : (rdS S d = d ∧ RD K β H d v) ∨ ∃ n a ds vs, d = .loc n ∧ rdS S d = .fro ds ∧ S[n]? = some (.lst ds) ∧ β n = some a ∧ v = .ref a ∧ H a = some (.lst vs) ∧ RDs K β H ds vs := by
  cases r with
  | loc hl =>
    obtain ⟨o, u, g1, g2, g3⟩ := h.ne hl
    cases g3 with
    | lst g3 =>
      refine .inr ⟨_, _, _, _, rfl, ?_, g1, hl, rfl, g2, g3⟩
      unfold rdS
      simp only [g1]
    | dic e g3 =>
      refine .inl ⟨?_, .loc hl⟩
      unfold rdS
      simp only [g1]
    | ins e g3 =>
      refine .inl ⟨?_, .loc hl⟩
      unfold rdS
      simp only [g1]
  | non => exact .inl ⟨rfl, .non⟩
  | bl b => exact .inl ⟨rfl, .bl b⟩
  | int b => exact .inl ⟨rfl, .int b⟩
  | str b => exact .inl ⟨rfl, .str b⟩
  | tup h1 h2 h3 => exact .inl ⟨rfl, .tup h1 h2 h3⟩
  | ktup h1 h3 => exact .inl ⟨rfl, .ktup h1 h3⟩
  | lst h1 h2 h3 => exact .inl ⟨rfl, .lst h1 h2 h3⟩
  | fro h1 h2 h3 => exact .inl ⟨rfl, .fro h1 h2 h3⟩
  | kfro h1 h3 => exact .inl ⟨rfl, .kfro h1 h3⟩
  | dic h1 h2 h3 h4 => exact .inl ⟨rfl, .dic h1 h2 h3 h4⟩
  | raw v => exact .inl ⟨rfl, .raw v⟩
theorem RS.dp {S : Store} {d : D} {v : V} {p : PyData} (h : RS K β H S) (r : RD K β H d v) (e : (rdS S d).py = some p) : Dp K H v p := by
  rcases h.rd r with ⟨e1, r1⟩ | ⟨n, a, ds, vs, rfl, e1, e2, e3, rfl, e5, e6⟩
  · rw [e1] at e
    exact RD.dp d v p r1 e
  · rw [e1] at e
    simp only [D.py] at e
    obtain ⟨ps, e7, e8⟩ := Option.map_eq_some_iff.mp e
    subst e8
    exact .lst (.inl (.inl e5)) (RDs.dp ds vs ps e6 e7)
/-- a list, a tuple, a list that is a place: its items -/
def seqOf (S : Store) : D → Option (List D)
  | .tup ds => some ds
  | .lst ds => some ds
  | .fro ds => some ds
  | .loc n => match S[n]? with
    | some (.lst ds) => some ds
    | _ => none
  | _ => none
theorem RS.seq {S : Store} {d : D} {v : V} {ds : List D} (h : RS K β H S) (r : RD K β H d v) (e : seqOf S d = some ds) : ∃ a vs, v = .ref a ∧ (SqL K H a vs ∨ SqT K H a vs) ∧ RDs K β H ds vs := by
  cases r with
  | loc hl =>
    obtain ⟨o, u, g1, g2, g3⟩ := h.ne hl
    unfold seqOf at e
    simp only [g1] at e
    cases g3 with
    | lst g3 => cases e; exact ⟨_, _, rfl, .inl (.inl (.inl g2)), g3⟩
    | dic _ g3 => cases e
    | ins _ g3 => cases e
  | tup h1 h2 h3 => cases e; exact ⟨_, _, rfl, .inr (.inl h1), h3⟩
  | ktup h1 h3 => cases e; exact ⟨_, _, rfl, .inr (.inr h1), h3⟩
  | lst h1 h2 h3 => cases e; exact ⟨_, _, rfl, .inl (.inl (.inl h1)), h3⟩
  | fro h1 h2 h3 => cases e; exact ⟨_, _, rfl, .inl (.inl h1), h3⟩
  | kfro h1 h3 => cases e; exact ⟨_, _, rfl, .inl (.inr h1), h3⟩
  | _ => cases e
end

/-- a list alone -/
def lsOf (S : Store) : D → Option (List D)
  | .lst ds => some ds
  | .fro ds => some ds
  | .loc n => match S[n]? with
    | some (.lst ds) => some ds
    | _ => none
  | _ => none
theorem RS.lsq {K : PySem.W.Frag} {β : Bt} {H : Hp} {S : Store} {d : D} {v : V} {ds : List D} (h : RS K β H S) (r : RD K β H d v) (e : lsOf S d = some ds) : ∃ a vs, v = .ref a ∧ SqL K H a vs ∧ RDs K β H ds vs := by
  cases r with
  | loc hl =>
    obtain ⟨o, u, g1, g2, g3⟩ := h.ne hl
    unfold lsOf at e
    simp only [g1] at e
    cases g3 with
    | lst g3 => cases e; exact ⟨_, _, rfl, .inl (.inl g2), g3⟩
    | dic _ g3 => cases e
    | ins _ g3 => cases e
  | lst h1 h2 h3 => cases e; exact ⟨_, _, rfl, .inl (.inl h1), h3⟩
  | fro h1 h2 h3 => cases e; exact ⟨_, _, rfl, .inl h1, h3⟩
  | kfro h1 h3 => cases e; exact ⟨_, _, rfl, .inr h1, h3⟩
  | _ => cases e

/-! ### ==, != -/
def oEqN (neg : Bool) : F2 := fun x y S => match (rdS S x).py, (rdS S y).py with
  | some p, some q => if SeqAt.shaped p && SeqAt.shaped q then some (.bl (if neg then !PyData.eqv p q else PyData.eqv p q), S) else none
  | _, _ => none
def oEq : F2 := oEqN false
def oNe : F2 := oEqN true
theorem rd_eq {K : PySem.W.Frag} : Rd2 K (rEqD K) oEq := by
  intro β H S x y v u d S' Q rs r1 r2 hf q
  unfold oEq oEqN at hf
  split at hf
  · rename_i p p' e1 e2
    split at hf
    · rename_i hs
      cases hf
      rw [Bool.and_eq_true] at hs
      exact ⟨p, p', rs.dp r1 e1, rs.dp r2 e2, hs.1, hs.2, q.now rs (.bl _)⟩
    · cases hf
  · cases hf
theorem rd_ne {K : PySem.W.Frag} : Rd2 K (rNeD K) oNe := by
  intro β H S x y v u d S' Q rs r1 r2 hf q
  unfold oNe oEqN at hf
  split at hf
  · rename_i p p' e1 e2
    split at hf
    · rename_i hs
      cases hf
      rw [Bool.and_eq_true] at hs
      exact ⟨p, p', rs.dp r1 e1, rs.dp r2 e2, hs.1, hs.2, q.now rs (.bl _)⟩
    · cases hf
  · cases hf

/-! ### in, not in: flat things in a list or tuple; a sign in a text -/
def D.fv : D → Option V
  | .non => some .non
  | .bl b => some (.bl b)
  | .int i => some (.int i)
  | .str x => some (.str x)
  | _ => none
def D.fvs : List D → Option (List V)
  | [] => some []
  | d :: ds => d.fv.bind fun v => (D.fvs ds).map fun vs => v :: vs
theorem RD.fv {K : PySem.W.Frag} {β : Bt} {H : Hp} {d : D} {v w : V} (h : RD K β H d v) (e : d.fv = some w) : v = w ∧ flatV v = true := by
  cases h <;> first
    | (cases e; exact ⟨rfl, rfl⟩)
    | cases e
theorem RDs.fvs {K : PySem.W.Frag} {β : Bt} {H : Hp} : ∀ {ds : List D} {vs ws : List V}, RDs K β H ds vs → D.fvs ds = some ws → vs = ws ∧ vs.all flatV = true
  | [], _, _, h, e => by cases h; cases e; exact ⟨rfl, rfl⟩
  | d :: ds, _, _, h, e => by
    unfold D.fvs at e
    obtain ⟨w, e1, e⟩ := Option.bind_eq_some_iff.mp e
    obtain ⟨ws, e2, e3⟩ := Option.map_eq_some_iff.mp e
    subst e3
    cases h with
    | cons h1 h2 =>
      obtain ⟨a1, a2⟩ := h1.fv e1
      obtain ⟨b1, b2⟩ := RDs.fvs h2 e2
      subst a1 b1
      exact ⟨rfl, by rw [List.all_cons, a2, b2]; rfl⟩
def oInN (neg : Bool) : F2 := fun x y S => match y with
  | .str z => (match x with
    | .str a => (match a.cps.toList with
      | [c] => some (.bl (if neg then !decide (c ∈ z.cps.toList) else decide (c ∈ z.cps.toList)), S)
      | _ => none)
    | _ => none)
  | y => match seqOf S y with
    | some ds => (match x.fv, D.fvs ds with
      | some v, some vs => some (.bl (if neg then !inV v vs else inV v vs), S)
      | _, _ => none)
    | none => none
theorem str_one {a : Str} {c : Nat} (h : a.cps.toList = [c]) : a = ⟨#[c]⟩ := by
  obtain ⟨cps⟩ := a
  have h : cps.toList = [c] := h
  have : cps = #[c] := by
    rw [← Array.toArray_toList (xs := cps), h]
  rw [this]
theorem rd_inN {K : PySem.W.Frag} (neg : Bool) : Rd2 K (fun x y H Q => rIn K neg x y H Q ∨ (∃ (c : Nat) (z : Str), x = .str ⟨#[c]⟩ ∧ y = .str z ∧ Q (.bl (if neg then !decide (c ∈ z.cps.toList) else decide (c ∈ z.cps.toList))) H)) (oInN neg) := by
  intro β H S x y v u d S' Q rs r1 r2 hf q
  unfold oInN at hf
  split at hf
  · cases r2
    split at hf
    · cases r1
      split at hf
      · rename_i c hc
        cases hf
        rw [str_one hc]
        exact .inr ⟨c, _, rfl, rfl, q.now rs (.bl _)⟩
      · cases hf
    · cases hf
  · split at hf
    · rename_i ds hd
      split at hf
      · rename_i w ws e1 e2
        cases hf
        obtain ⟨a, vs, rfl, h1, h2⟩ := rs.seq r2 hd
        obtain ⟨a1, a2⟩ := r1.fv e1
        obtain ⟨b1, b2⟩ := h2.fvs e2
        subst a1 b1
        exact .inl ⟨a, vs, rfl, h1, a2, b2, q.now rs (.bl _)⟩
      · cases hf
    · cases hf
section
variable {X : Cx}
theorem opr_in : OpR X (compareOp .In) (fun x y H Q => rIn X.K false x y H Q ∨ (∃ (c : Nat) (z : Str), x = .str ⟨#[c]⟩ ∧ y = .str z ∧ Q (.bl (if false = true then !decide (c ∈ z.cps.toList) else decide (c ∈ z.cps.toList))) H)) := op_in_seq.or op_in_sign
theorem opr_notin : OpR X (compareOp .NotIn) (fun x y H Q => rIn X.K true x y H Q ∨ (∃ (c : Nat) (z : Str), x = .str ⟨#[c]⟩ ∧ y = .str z ∧ Q (.bl (if true = true then !decide (c ∈ z.cps.toList) else decide (c ∈ z.cps.toList))) H)) := op_notIn_seq.or op_notIn_sign
end

/-! ### + -/
def oAdd : F2 := fun x y S => match x, y with
  | .int i, .int j => some (.int (i + j), S)
  | .str a, .str b => if a.length + b.length ≤ sizeLine then some (.str (a ++ b), S) else none
  | .lst a, .lst b => if a.length + b.length ≤ sizeLine then some (.lst (a ++ b), S) else none
  | .tup a, .tup b => if a.length + b.length ≤ sizeLine then some (.tup (a ++ b), S) else none
  | _, _ => none
def rAddA (K : PySem.W.Frag) : R2 := fun x y H Q => rI0 (fun i j => .int (i + j)) x y H Q ∨ (∃ i j, x = .str i ∧ y = .str j ∧ i.length + j.length ≤ sizeLine ∧ Q (.str (i ++ j)) H) ∨ rCat x y H Q ∨ rCatA K x y H Q
theorem opr_add {X : Cx} : OpR X (binaryOp .Add) (rAddA X.K) := op_add.or (op_add_str.or (op_cat.or op_catA))
theorem rd_add {K : PySem.W.Frag} : Rd2 K (rAddA K) oAdd := by
  intro β H S x y v u d S' Q rs r1 r2 hf q
  unfold oAdd at hf
  split at hf
  · cases r1; cases r2; cases hf
    exact .inl ⟨_, _, rfl, rfl, q.now rs (.int _)⟩
  · cases r1; cases r2
    split at hf
    · rename_i hl
      cases hf
      exact .inr (.inl ⟨_, _, rfl, rfl, hl, q.now rs (.str _)⟩)
    · cases hf
  · split at hf
    · rename_i hl
      cases hf
      obtain ⟨a, vs, rfl, h1, h2, h3⟩ := r1.lst_inv
      obtain ⟨b, ws, rfl, g1, g2, g3⟩ := r2.lst_inv
      exact .inr (.inr (.inl ⟨a, b, vs, ws, rfl, rfl, h1, g1, by rw [← h3.length, ← g3.length]; exact hl, q.newL rs (h3.append g3)⟩))
    · cases hf
  · split at hf
    · rename_i hl
      cases hf
      obtain ⟨a, vs, e1, h1, h3⟩ := r1.sqt
      obtain ⟨b, ws, e2, g1, g3⟩ := r2.sqt
      refine .inr (.inr (.inr ⟨a, b, vs, ws, e1, e2, h1, g1, by rw [← h3.length, ← g3.length]; exact hl, fun e => ?_, fun _ e => ?_, fun _ _ => q.newT rs (h3.append g3)⟩))
      · subst e
        cases h3
        rw [← e2]
        exact q.now rs r2
      · subst e
        cases g3
        rw [← e1]
        exact q.now rs (by rw [List.append_nil]; exact r1)
    · cases hf
  · cases hf
theorem de_add {X : Cx} {pos : Pos} {a b : Expr} {fa fb : FE} (ha : DE X a fa) (hb : DE X b fb) : DE X (.BinOp a .Add b pos) (fOp oAdd fa fb) := de_op opr_add rd_add ha hb

/-! ### a[i] -/
theorem atI_map {K : PySem.W.Frag} {β : Bt} {H : Hp} {ds : List D} {vs : List V} {i : Int} {d : D} (h : RDs K β H ds vs) (e : atI ds i = some d) : ∃ v, atI vs i = some v ∧ RD K β H d v := by
  unfold atI at e ⊢
  rw [← h.length]
  obtain ⟨j, e1, e2⟩ := Option.bind_eq_some_iff.mp e
  obtain ⟨v, e3, r⟩ := h.get e2
  exact ⟨v, by rw [e1]; exact e3, r⟩
def oIx : F2 := fun x y S => match y with
  | .int i => (match x with
    | .str z => if z.length ≤ sizeLine then (atI z.cps.toList i).map fun c => (.str ⟨#[c]⟩, S) else none
    | x => (seqOf S x).bind fun ds => (atI ds i).map fun d => (d, S))
  | _ => none
theorem rd_ix {K : PySem.W.Frag} : Rd2 K (rIx K) oIx := by
  intro β H S x y v u d S' Q rs r1 r2 hf q
  unfold oIx at hf
  split at hf
  · cases r2
    split at hf
    · cases r1
      split at hf
      · rename_i hl
        obtain ⟨c, e1, e2⟩ := Option.map_eq_some_iff.mp hf
        cases e2
        exact .inr (.inr ⟨_, _, c, rfl, rfl, hl, e1, q.now rs (.str _)⟩)
      · cases hf
    · obtain ⟨ds, e1, hf⟩ := Option.bind_eq_some_iff.mp hf
      obtain ⟨c, e2, e3⟩ := Option.map_eq_some_iff.mp hf
      cases e3
      obtain ⟨a, vs, rfl, h1, h2⟩ := rs.seq r1 e1
      obtain ⟨w, e4, r4⟩ := atI_map h2 e2
      rcases h1 with h1 | h1
      · exact .inl ⟨a, vs, _, w, rfl, rfl, h1, e4, q.now rs r4⟩
      · exact .inr (.inl ⟨a, vs, _, w, rfl, rfl, h1, e4, q.now rs r4⟩)
  · cases hf
theorem de_ix {X : Cx} {pos : Pos} {a b : Expr} {fa fb : FE} (ha : DE X a fa) (hb : DE X b fb) (hs : PlainIx b := by intro _ _; rfl) : DE X (.Subscript a b pos) (fOp oIx fa fb) := de_of (pe_ix ix_seq goE goE hs) (rd_op rd_ix ha.run hb.run)

/-! ### a[lo:hi] -/
abbrev FO := Env → Store → Option (Option Int × Store)
def RdO (K : PySem.W.Frag) (t : TO) (f : FO) : Prop := ∀ (σ : L2.St) (β : Bt) (H : Hp) (env : Env) (S : Store) (d : Option Int) (S' : Store) (Q : Option Int → Hp → Prop), RE K β H env σ → RS K β H S → f env S = some (d, S') →
  (∀ β' H', Step β H β' H' → RS K β' H' S' → Q d H') → t σ H Q
def foNone : FO := fun _ S => some (none, S)
def asI (x : Option (D × Store)) : Option (Int × Store) := match x with
  | some (.int i, S) => some (i, S)
  | _ => none
theorem asI_inv {x : Option (D × Store)} {i : Int} {S : Store} (h : asI x = some (i, S)) : x = some (.int i, S) := by
  unfold asI at h
  split at h
  · cases h; rfl
  · cases h
def foSome (f : FE) : FO := fun env S => bnd (asI (f env S)) fun i S1 => some (some i, S1)
def cutD (xs : List D) (lo hi : Option Int) : List D := (xs.drop (HT.sIx xs.length 0 lo)).take (HT.sIx xs.length xs.length hi - HT.sIx xs.length 0 lo)
def oSl (x : D) (lo hi : Option Int) (S : Store) : Option (D × Store) := match x with
  | .str z => if z.length ≤ sizeLine then some (.str (cutS z lo hi), S) else none
  | .tup ds => some (.tup (cutD ds lo hi), S)
  | x => (lsOf S x).map fun ds => (.lst (cutD ds lo hi), S)
def fSl (f : FE) (fl fh : FO) : FE := fun env S => bnd (f env S) fun x S1 => bnd (fl env S1) fun l S2 => bnd (fh env S2) fun h S3 => oSl x l h S3
theorem RDs.cutD {K : PySem.W.Frag} {β : Bt} {H : Hp} {ds : List D} {vs : List V} (h : RDs K β H ds vs) (lo hi : Option Int) : RDs K β H (cutD ds lo hi) (cutV vs lo hi) := by
  unfold Mir.cutD cutV
  rw [← h.length]
  exact (h.drop _).take _
def rSlAll (K : PySem.W.Frag) : V → Option Int → Option Int → Hp → VK → Prop := fun x lo hi H Q => rSlS x lo hi H Q ∨ rSlL K x lo hi H Q ∨ rSlA K x lo hi H Q
theorem sl_all {X : Cx} : SlR X (rSlAll X.K) := sl_str.or (sl_list.or sl_tupA)
section
variable {X : Cx} {K : PySem.W.Frag} {pos p2 : Pos} {e : Expr} {lo hi : Option Expr} {f : FE} {fl fh : FO} {te : TE} {tl th : TO}
theorem rd_foNone : RdO K tNoPart foNone := by
  intro σ β H env S d S' Q re rs hf q
  cases hf
  exact q β H .refl rs
theorem rd_foSome (h : RdE K te f) : RdO K (tPart te) (foSome f) := by
  intro σ β H env S d S' Q re rs hf q
  obtain ⟨i, S1, e1, hf⟩ := bnd_inv hf
  cases hf
  refine h σ β H env S (.int i) S' _ re rs (asI_inv e1) fun v β1 H1 st1 rs1 r1 => ?_
  cases r1
  exact ⟨i, rfl, q β1 H1 st1 rs1⟩
theorem rd_slv (β : Bt) (H : Hp) (S : Store) (x : D) (v : V) (l u : Option Int) (d : D) (S' : Store) (Q : VK) (rs3 : RS K β H S) (r3 : RD K β H x v) (hf : oSl x l u S = some (d, S')) (q3 : PostE K β H S' d Q) : rSlAll K v l u H Q := by
  unfold oSl at hf
  split at hf
  · cases r3
    split at hf
    · rename_i hl
      cases hf
      exact .inl ⟨_, rfl, hl, q3.now rs3 (.str _)⟩
    · cases hf
  · rename_i ds
    cases hf
    obtain ⟨a, vs, e4, h1, h2⟩ := r3.sqt
    refine .inr (.inr ⟨a, vs, e4, h1, fun ⟨w1, w2⟩ => ?_, fun _ => q3.newT rs3 (h2.cutD _ _)⟩)
    rw [← e4]
    refine q3.now rs3 ?_
    have : Mir.cutD ds l u = ds := by
      unfold Mir.cutD
      rw [h2.length, w1, w2, ← h2.length]
      simp
    rw [this]
    exact r3
  · obtain ⟨ds, e4, e5⟩ := Option.map_eq_some_iff.mp hf
    cases e5
    obtain ⟨a, vs, rfl, h1, h2⟩ := rs3.lsq r3 e4
    exact .inr (.inl ⟨a, vs, rfl, h1, q3.newL rs3 (h2.cutD _ _)⟩)
def DO (X : Cx) (e : Option Expr) (f : FO) : Prop := ∃ t, PO X e t ∧ RdO X.K t f
theorem do_none : DO X none foNone := ⟨_, po_none, rd_foNone⟩
theorem do_some (h : DE X e f) : DO X (some e) (foSome f) := ⟨_, po_some goE, rd_foSome h.run⟩
theorem de_sl (he : DE X e f) (hl : DO X lo fl) (hh : DO X hi fh) : DE X (.Subscript e (.Slice lo hi none p2) pos) (fSl f fl fh) := by
  obtain ⟨tl, pl, rl⟩ := hl
  obtain ⟨th, ph, rh⟩ := hh
  refine de_of (pe_slice sl_all goE pl ph) ?_
  intro σ β H env S d S' Q re rs hf q
  obtain ⟨x, S1, e1, hf⟩ := bnd_inv hf
  obtain ⟨l, S2, e2, hf⟩ := bnd_inv hf
  obtain ⟨u, S3, e3, hf⟩ := bnd_inv hf
  refine he.run σ β H env S x S1 _ re rs e1 fun v β1 H1 st1 rs1 r1 => ?_
  refine rl σ β1 H1 env S1 l S2 _ (re.step st1) rs1 e2 fun β2 H2 st2 rs2 => ?_
  refine rh σ β2 H2 env S2 u S3 _ ((re.step st1).step st2) rs2 e3 fun β3 H3 st3 rs3 => ?_
  exact rd_slv β3 H3 S3 x v l u d S' Q rs3 (RD.step st3 _ _ (RD.step st2 _ _ r1)) hf (((q.step st1).step st2).step st3)
end
end Mir

set_option Elab.async false
set_option linter.all false
set_option maxRecDepth 100000
set_option autoImplicit false
set_option maxHeartbeats 1000000
/-! Mir4: what a loop walks, targets, for, while, comprehensions, stores by place, calls, defs. -/
namespace Mir
open PySem L2

/-! ### what is walked -/
def ItOk (K : PySem.W.Frag) (β : Bt) (H : Hp) (J : It) (ds : List D) : Prop :=
  ∀ β' H', Step β H β' H' → (∀ (i : Nat) (d : D), ds[i]? = some d → J.go i H' ∧ ∀ x H2, J.yld i H' x H2 → ∀ S, RS K β' H' S → Step β' H' β' H2 ∧ RS K β' H2 S ∧ RD K β' H2 d x) ∧ J.stop ds.length H'
def RdI (K : PySem.W.Frag) (wi : TI) (f : FA) : Prop := ∀ (σ : L2.St) (β : Bt) (H : Hp) (env : Env) (S : Store) (ds : List D) (S' : Store) (R : It → Hp → Prop), RE K β H env σ → RS K β H S → f env S = some (ds, S') →
  (∀ J β' H', Step β H β' H' → RS K β' H' S' → ItOk K β' H' J ds → R J H') → wi σ H R
def DI (X : Cx) (tg iter : Expr) (f : FA) : Prop := ∃ wi, PI X tg iter wi ∧ RdI X.K wi f
def fIt (g : D → Option (List D)) (f : FE) : FA := fun env S => bnd (f env S) fun d S1 => (g d).map fun ds => (ds, S1)
def gList : D → Option (List D)
  | .lst ds => some ds
  | .fro ds => some ds
  | _ => none
def gTup : D → Option (List D)
  | .tup ds => some ds
  | _ => none
def gStr : D → Option (List D)
  | .str z => some (z.cps.toList.map fun c => .str ⟨#[c]⟩)
  | _ => none
section
variable {K : PySem.W.Frag} {β β' : Bt} {H H' : Hp} {ds : List D} {v : V} {a : Addr}
theorem itOk_list (h : ∀ β' H', Step β H β' H' → ∃ vs, SqL K H' a vs ∧ RDs K β' H' ds vs) : ItOk K β H (Itl K a) ds := by
  intro β' H' st
  obtain ⟨vs, h1, h2⟩ := h β' H' st
  refine ⟨fun i d hd => ?_, ⟨vs, h1, by rw [h2.length]; exact Nat.le_refl _⟩⟩
  obtain ⟨w, e, r⟩ := h2.get hd
  refine ⟨⟨vs, w, h1, e⟩, fun x H2 y S rs => ?_⟩
  obtain ⟨rfl, y⟩ := y
  have := y vs h1
  rw [e] at this
  cases this
  exact ⟨.refl, rs, r⟩
theorem itOk_tup (h : ∀ β' H', Step β H β' H' → ∃ vs, SqT K H' a vs ∧ RDs K β' H' ds vs) : ItOk K β H (Itt K a) ds := by
  intro β' H' st
  obtain ⟨vs, h1, h2⟩ := h β' H' st
  refine ⟨fun i d hd => ?_, ⟨vs, h1, by rw [h2.length]; exact Nat.le_refl _⟩⟩
  obtain ⟨w, e, r⟩ := h2.get hd
  refine ⟨⟨vs, w, h1, e⟩, fun x H2 y S rs => ?_⟩
  obtain ⟨rfl, y⟩ := y
  have := y vs h1
  rw [e] at this
  cases this
  exact ⟨.refl, rs, r⟩
theorem gList_ok {d : D} (h : RD K β H d v) (e : gList d = some ds) : ∃ a, v = .ref a ∧ ∀ β' H', Step β H β' H' → ∃ vs, SqL K H' a vs ∧ RDs K β' H' ds vs := by
  cases h with
  | lst h1 h2 h3 =>
    cases e
    exact ⟨_, rfl, fun β' H' st => ⟨_, .inl (.inl (st.keep _ _ h1 h2)), RDs.step st _ _ h3⟩⟩
  | fro h1 h2 h3 =>
    cases e
    exact ⟨_, rfl, fun β' H' st => ⟨_, .inl (st.rd h1 h2).1, RDs.step st _ _ h3⟩⟩
  | kfro h1 h3 =>
    cases e
    exact ⟨_, rfl, fun β' H' st => ⟨_, .inr h1, RDs.step st _ _ h3⟩⟩
  | _ => cases e
theorem gTup_ok {d : D} (h : RD K β H d v) (e : gTup d = some ds) : ∃ a, v = .ref a ∧ ∀ β' H', Step β H β' H' → ∃ vs, SqT K H' a vs ∧ RDs K β' H' ds vs := by
  cases h with
  | tup h1 h2 h3 =>
    cases e
    exact ⟨_, rfl, fun β' H' st => ⟨_, .inl (st.rd h1 h2).1, RDs.step st _ _ h3⟩⟩
  | ktup h1 h3 =>
    cases e
    exact ⟨_, rfl, fun β' H' st => ⟨_, .inr h1, RDs.step st _ _ h3⟩⟩
  | _ => cases e
end
section
variable {X : Cx} {tg l : Expr} {f : FE} {pos p : Pos}
theorem di_list (h : DE X l f) : DI X tg l (fIt gList f) := ⟨_, pi_list goE, by
  intro σ β H env S ds S' R re rs hf q
  obtain ⟨d, S1, e1, hf⟩ := bnd_inv hf
  obtain ⟨ds', e2, e3⟩ := Option.map_eq_some_iff.mp hf
  cases e3
  refine h.run σ β H env S d S' _ re rs e1 fun v β1 H1 st1 rs1 r1 => ?_
  obtain ⟨a, rfl, k⟩ := gList_ok r1 e2
  obtain ⟨vs, h1, _⟩ := k β1 H1 .refl
  exact ⟨a, rfl, ⟨vs, h1⟩, q _ β1 H1 st1 rs1 (itOk_list k)⟩⟩
theorem di_tup (h : DE X l f) : DI X tg l (fIt gTup f) := ⟨_, pi_tup goE, by
  intro σ β H env S ds S' R re rs hf q
  obtain ⟨d, S1, e1, hf⟩ := bnd_inv hf
  obtain ⟨ds', e2, e3⟩ := Option.map_eq_some_iff.mp hf
  cases e3
  refine h.run σ β H env S d S' _ re rs e1 fun v β1 H1 st1 rs1 r1 => ?_
  obtain ⟨a, rfl, k⟩ := gTup_ok r1 e2
  obtain ⟨vs, h1, _⟩ := k β1 H1 .refl
  exact ⟨a, rfl, ⟨vs, h1⟩, q _ β1 H1 st1 rs1 (itOk_tup k)⟩⟩
theorem di_str (h : DE X l f) : DI X tg l (fIt gStr f) := ⟨_, pi_str goE, by
  intro σ β H env S ds S' R re rs hf q
  obtain ⟨d, S1, e1, hf⟩ := bnd_inv hf
  obtain ⟨ds', e2, e3⟩ := Option.map_eq_some_iff.mp hf
  cases e3
  refine h.run σ β H env S d S' _ re rs e1 fun v β1 H1 st1 rs1 r1 => ?_
  unfold gStr at e2
  split at e2
  · rename_i z
    cases e2
    cases r1
    refine ⟨z, rfl, q _ β1 H1 st1 rs1 fun β2 H2 st2 => ⟨fun i d hd => ?_, ?_⟩⟩
    · rw [List.getElem?_map] at hd
      obtain ⟨c, hc, rfl⟩ := Option.map_eq_some_iff.mp hd
      have hc' : z.cps[i]? = some c := by rw [← Array.getElem?_toList]; exact hc
      refine ⟨(Array.getElem?_eq_some_iff.mp hc').1, fun x H3 y S rs => ?_⟩
      obtain ⟨rfl, c', hc2, rfl⟩ := y
      rw [hc'] at hc2
      cases hc2
      exact ⟨.refl, rs, .str _⟩
    · show z.cps.size ≤ _
      rw [List.length_map, Array.length_toList]
      exact Nat.le_refl _
  · cases e2⟩
/-- the ints from lo below hi -/
def rng (lo hi : Int) : List D := (List.range (hi - lo).toNat).map fun i => .int (lo + (i : Nat))
theorem itOk_rng {K : PySem.W.Frag} {β : Bt} {H : Hp} {lo : Int} {n : Nat} : ItOk K β H (Itr lo n) ((List.range n).map fun i => .int (lo + (i : Nat))) := by
  intro β' H' st
  refine ⟨fun i d hd => ?_, ?_⟩
  · rw [List.getElem?_map] at hd
    obtain ⟨c, hc, rfl⟩ := Option.map_eq_some_iff.mp hd
    obtain ⟨h1, h2⟩ := List.getElem?_eq_some_iff.mp hc
    rw [List.length_range] at h1
    rw [List.getElem_range] at h2
    subst h2
    refine ⟨h1, fun x H3 y S rs => ?_⟩
    obtain ⟨rfl, rfl⟩ := y
    exact ⟨.refl, rs, .int _⟩
  · show n ≤ _
    rw [List.length_map, List.length_range]
    exact Nat.le_refl _
def okR (i : Int) : Bool := Nat.ble i.natAbs 4611686018427387903
def fRng1 (f : FE) : FA := fun env S => bnd (asI (f env S)) fun j S1 => if okR j then some (rng 0 j, S1) else none
def fRng2 (f g : FE) : FA := fun env S => bnd (asI (f env S)) fun i S1 => bnd (asI (g env S1)) fun j S2 => if okR i && okR j then some (rng i j, S2) else none
theorem okR_ok {i : Int} (h : okR i = true) : -(2 ^ 62) ≤ i ∧ i < 2 ^ 62 := by
  have h2 := Nat.le_of_ble_eq_true h
  omega
theorem okR_of {i : Int} (h1 : -1000000 ≤ i) (h2 : i ≤ 1000000) : okR i = true := Nat.ble_eq_true_of_le (by omega)
theorem di_rng1 (hm : X.mg "range" = none) (h : DE X l f) (hg : Gl X "range" := by rfl) (hs : starEach [l] X.env = [(false, eval l X.env)] := by first | exact st_cons rfl | rfl) : DI X tg (.Call (.Name "range" p) [l] [] pos) (fRng1 f) := ⟨_, pi_range1 hg hm goA hs, by
  intro σ β H env S ds S' R re rs hf q
  obtain ⟨j, S1, e1, hf⟩ := bnd_inv hf
  split at hf
  · rename_i hj
    cases hf
    refine (da_consS h da_nil (by rw [hs]; rfl)).run σ β H env S [.int j] S' _ re rs (by unfold fCons; rw [asI_inv e1]; rfl) fun vs β1 H1 st1 rs1 r1 => ?_
    cases r1 with
    | cons r1 r2 =>
      cases r2
      cases r1
      refine ⟨j, rfl, (okR_ok hj).1, (okR_ok hj).2, q _ β1 H1 st1 rs1 ?_⟩
      have e : j.toNat = (j - 0).toNat := by rw [Int.sub_zero]
      rw [e]
      exact itOk_rng
  · cases hf⟩
theorem di_rng2 {l2 : Expr} {g : FE} (hm : X.mg "range" = none) (h : DE X l f) (h2 : DE X l2 g) (hg : Gl X "range" := by rfl) (hs : starEach [l, l2] X.env = [(false, eval l X.env), (false, eval l2 X.env)] := by rfl) (hs2 : starEach [l2] X.env = [(false, eval l2 X.env)] := by rfl) :
    DI X tg (.Call (.Name "range" p) [l, l2] [] pos) (fRng2 f g) := ⟨_, pi_range2 hg hm goA hs hs2, by
  intro σ β H env S ds S' R re rs hf q
  obtain ⟨i, S1, e1, hf⟩ := bnd_inv hf
  obtain ⟨j, S2, e2, hf⟩ := bnd_inv hf
  split at hf
  · rename_i hj
    cases hf
    rw [Bool.and_eq_true] at hj
    refine (da_consS h (da_consS h2 da_nil (by rw [hs2]; rfl)) (by rw [hs, hs2])).run σ β H env S [.int i, .int j] S' _ re rs (by unfold fCons; rw [asI_inv e1, bnd_some, asI_inv e2]; rfl) fun vs β1 H1 st1 rs1 r1 => ?_
    cases r1 with
    | cons r1 r2 =>
      cases r2 with
      | cons r2 r3 =>
        cases r3
        cases r1
        cases r2
        exact ⟨i, j, rfl, ⟨(okR_ok hj.1).1, (okR_ok hj.1).2, (okR_ok hj.2).1, (okR_ok hj.2).2⟩, q _ β1 H1 st1 rs1 itOk_rng⟩
  · cases hf⟩
end

/-! ### targets -/
abbrev FG := D → Env → Store → Option (Env × Store)
/-- is: the slots that are stored -/
def RdG (K : PySem.W.Frag) (is : List Nat) (t : TG) (g : FG) : Prop := ∀ (σ : L2.St) (β : Bt) (H : Hp) (env : Env) (S : Store) (d : D) (v : V) (env' : Env) (S' : Store) (Q : L2.St → Hp → Prop), RE K β H env σ → RS K β H S → RD K β H d v →
  g d env S = some (env', S') → (∀ σ' β' H', Step β H β' H' → RS K β' H' S' → RE K β' H' env' σ' → (∀ vs : List Nat, (∀ i ∈ is, i ∈ vs) → wipe σ' vs = wipe σ vs) → Q σ' H') → t v σ H Q
def RdGs (K : PySem.W.Frag) (is : List Nat) (t : TGs) (g : List D → Env → Store → Option (Env × Store)) : Prop := ∀ (σ : L2.St) (β : Bt) (H : Hp) (env : Env) (S : Store) (d : List D) (v : List V) (env' : Env) (S' : Store) (Q : L2.St → Hp → Prop), RE K β H env σ → RS K β H S → RDs K β H d v →
  g d env S = some (env', S') → (∀ σ' β' H', Step β H β' H' → RS K β' H' S' → RE K β' H' env' σ' → (∀ vs : List Nat, (∀ i ∈ is, i ∈ vs) → wipe σ' vs = wipe σ vs) → Q σ' H') → t v σ H Q
def DG (X : Cx) (e : Expr) (is : List Nat) (g : FG) : Prop := ∃ t, PG X e t ∧ RdG X.K is t g
def DGs (X : Cx) (es : List Expr) (is : List Nat) (g : List D → Env → Store → Option (Env × Store)) : Prop := (∃ t, PGs X es t ∧ RdGs X.K is t g) ∧ ∀ ds env S r, g ds env S = some r → ds.length = es.length
def tgN (i : Nat) : FG := fun d env S => some (env.set i (some d), S)
def tgNil : List D → Env → Store → Option (Env × Store) := fun ds env S => match ds with
  | [] => some (env, S)
  | _ => none
def tgCons (f : FG) (g : List D → Env → Store → Option (Env × Store)) : List D → Env → Store → Option (Env × Store) := fun ds env S => match ds with
  | d :: r => bnd (f d env S) fun e S1 => g r e S1
  | _ => none
def tgTup (g : List D → Env → Store → Option (Env × Store)) : FG := fun d env S => match d with
  | .tup ds => g ds env S
  | _ => none
theorem wipe_set {σ : L2.St} {v : Option V} {i : Nat} : ∀ {vs : List Nat}, i ∈ vs → wipe (σ.set i v) vs = wipe σ vs
  | [], h => by cases h
  | j :: vs, h => by
    unfold wipe
    by_cases hj : i ∈ vs
    · rw [wipe_set hj]
    · have e : i = j := by
        rcases List.mem_cons.mp h with e | e
        · exact e
        · exact absurd e hj
      subst e
      apply List.ext_getElem?
      intro k
      by_cases hk : i = k
      · subst hk
        by_cases hl : i < σ.length
        · rw [List.getElem?_set_self (by rw [wipe_length, List.length_set]; exact hl), List.getElem?_set_self (by rw [wipe_length]; exact hl)]
        · rw [List.getElem?_eq_none (by rw [List.length_set, wipe_length, List.length_set]; omega), List.getElem?_eq_none (by rw [List.length_set, wipe_length]; omega)]
      · rw [List.getElem?_set_ne hk, List.getElem?_set_ne hk]
        clear h hj
        induction vs generalizing k with
        | nil => unfold wipe; rw [List.getElem?_set_ne hk]
        | cons j vs ih =>
          unfold wipe
          by_cases hjk : j = k
          · subst hjk
            by_cases hl : j < σ.length
            · rw [List.getElem?_set_self (by rw [wipe_length, List.length_set]; exact hl), List.getElem?_set_self (by rw [wipe_length]; exact hl)]
            · rw [List.getElem?_eq_none (by rw [List.length_set, wipe_length, List.length_set]; omega), List.getElem?_eq_none (by rw [List.length_set, wipe_length]; omega)]
          · rw [List.getElem?_set_ne hjk, List.getElem?_set_ne hjk]
            exact ih k hk
section
variable {X : Cx} {pos : Pos} {e : Expr} {es : List Expr} {is js : List Nat} {f : FG} {g : List D → Env → Store → Option (Env × Store)}
theorem dg_name {i : Nat} {x : Str} (hN : X.N.Nodup) (hi : X.N[i]? = some x := by rfl) (hx : Loc X.env.scope x := by first | exact Or.inl rfl | exact Or.inr rfl) (hf : X.fn x = true ∨ X.env.scope.names.lookup x = some .local := by first | exact .inl rfl | exact .inr rfl | assumption) : DG X (.Name x pos) [i] (tgN i) :=
  ⟨_, pg_name hN hi hx hf, by
  intro σ β H env S d v env' S' Q re rs r hf q
  cases hf
  exact q _ β H .refl rs (re.set r) fun vs h => wipe_set (h i (by simp))⟩
theorem dgs_nil : DGs X [] [] tgNil := ⟨⟨_, pgs_nil, by
  intro σ β H env S d v env' S' Q re rs r hf q
  cases r with
  | nil => cases hf; exact ⟨rfl, q σ β H .refl rs re fun _ _ => rfl⟩
  | cons => cases hf⟩, fun ds env S r h => by
  cases ds with
  | nil => rfl
  | cons => cases h⟩
theorem dgs_cons (h1 : DG X e is f) (h2 : DGs X es js g) (hs : (assignEach (e :: es) X.env).map (·.2) = assign e X.env :: (assignEach es X.env).map (·.2) := by rfl) : DGs X (e :: es) (is ++ js) (tgCons f g) := by
  obtain ⟨t, p1, r1⟩ := h1
  obtain ⟨⟨u, p2, r2⟩, hl⟩ := h2
  refine ⟨⟨_, pgs_cons p1 p2 hs, ?_⟩, fun ds env S r h => by
    cases ds with
    | nil => cases h
    | cons d ds =>
      have h : bnd (f d env S) (fun e S1 => g ds e S1) = some r := h
      obtain ⟨e1, S1, h1, h2⟩ := bnd_inv h
      rw [List.length_cons, List.length_cons, hl ds _ _ _ h2]⟩
  intro σ β H env S d v env' S' Q re rs r hf q
  cases r with
  | nil => cases hf
  | @cons d0 v0 dr vr ra rb =>
    have hf : bnd (f d0 env S) (fun e S1 => g dr e S1) = some (env', S') := hf
    obtain ⟨e1, S1, h1, h2⟩ := bnd_inv hf
    refine ⟨v0, vr, rfl, r1 σ β H env S d0 v0 e1 S1 _ re rs ra h1 fun σ1 β1 H1 st1 rs1 re1 w1 => ?_⟩
    refine r2 σ1 β1 H1 e1 S1 dr vr env' S' _ re1 rs1 (RDs.step st1 _ _ rb) h2 fun σ2 β2 H2 st2 rs2 re2 w2 => ?_
    exact q σ2 β2 H2 (st1.trans st2) rs2 re2 fun vs h => (w2 vs fun i hi => h i (List.mem_append_right _ hi)).trans (w1 vs fun i hi => h i (List.mem_append_left _ hi))
theorem dg_tup {k : Nat} (h : DGs X es is g) (hc : X.calm = true := by rfl) (hn : (assignEach es X.env).length = es.length := by rfl) (hst : (assignEach es X.env).findIdx? (·.1) = none := by rfl) : DG X (.Tuple es k pos) is (tgTup g) := by
  obtain ⟨⟨t, p1, r1⟩, hg⟩ := h
  refine ⟨_, pg_tup hc p1 hn hst, ?_⟩
  intro σ β H env S d v env' S' Q re rs r hf q
  cases d with
  | tup ds =>
    obtain ⟨a, vs, rfl, h1, h2⟩ := r.sqt
    refine ⟨a, vs, rfl, h1, ?_, r1 σ β H env S ds vs env' S' Q re rs h2 hf q⟩
    rw [← h2.length]
    exact hg ds env S _ hf
  | _ => cases hf
end
end Mir

set_option Elab.async false
set_option linter.all false
set_option maxRecDepth 100000
set_option autoImplicit false
set_option maxHeartbeats 1000000
/-! Mir5: for, while, comprehensions, stores, calls, defs. -/
namespace Mir
open PySem L2

/-! ### for -/
def forGo (tg : FG) (body : FS) : List D → Env → Store → Option (Rt × Store)
  | [], env, S => some (.nx env, S)
  | d :: ds, env, S => bnd (tg d env S) fun e1 S1 => bnd (body e1 S1) fun r S2 => match r with
    | .nx e => forGo tg body ds e S2
    | .ct e => forGo tg body ds e S2
    | .bk e => some (.nx e, S2)
    | .rt d => some (.rt d, S2)
def sFor (it : FA) (tg : FG) (body : FS) : FS := fun env S => bnd (it env S) fun ds S1 => forGo tg body ds env S1
section
variable {K : PySem.W.Frag} {wi : TI} {fi : FA} {tg : TG} {g : FG} {tb : TS} {fb : FS} {is : List Nat}
theorem rd_for (hi : RdI K wi fi) (hg : RdG K is tg g) (hb : RdS K tb fb) : RdS K (tFor wi tg tb) (sFor fi g fb) := by
  intro σ β H env S r S' N re rs hf q
  obtain ⟨ds, S1, e1, hf⟩ := bnd_inv hf
  refine hi σ β H env S ds S1 _ re rs e1 fun J β1 H1 st1 rs1 ok => ?_
  refine ⟨fun i m σ' H' => m = ds.length - i ∧ i ≤ ds.length ∧ ∃ β' env' S2, Step β1 H1 β' H' ∧ RS K β' H' S2 ∧ RE K β' H' env' σ' ∧ forGo g fb (ds.drop i) env' S2 = some (r, S'),
    ⟨ds.length, by simp, Nat.zero_le _, β1, env, S1, .refl, rs1, re.step st1, by simpa using hf⟩, ?_⟩
  rintro i m σ2 H2 ⟨rfl, hi', β2, env2, S2, st2, rs2, re2, h2⟩
  obtain ⟨okI, okS⟩ := ok β2 H2 st2
  by_cases hlt : i < ds.length
  · have hd : ds.drop i = ds[i] :: ds.drop (i + 1) := List.drop_eq_getElem_cons hlt
    rw [hd] at h2
    obtain ⟨e3, S3, h3, h2⟩ := bnd_inv (show bnd (g ds[i] env2 S2) _ = some (r, S') from h2)
    obtain ⟨r4, S4, h4, h2⟩ := bnd_inv h2
    obtain ⟨go, yl⟩ := okI i ds[i] (List.getElem?_eq_getElem hlt)
    refine .inr ⟨go, fun σ' H' => ∃ β' env' S5, Step β1 H1 β' H' ∧ RS K β' H' S5 ∧ RE K β' H' env' σ' ∧ forGo g fb (ds.drop (i + 1)) env' S5 = some (r, S'), fun σ' H' ⟨β', env', S5, a1, a2, a3, a4⟩ => ⟨ds.length - (i + 1), by omega, rfl, hlt, β', env', S5, a1, a2, a3, a4⟩, fun x H3 y => ?_⟩
    obtain ⟨st3, rs3, rd3⟩ := yl x H3 y S2 rs2
    refine hg σ2 β2 H3 env2 S2 ds[i] x e3 S3 _ (re2.step st3) rs3 rd3 h3 fun σ4 β4 H4 st4 rs4 re4 _ => ?_
    refine hb σ4 β4 H4 e3 S3 r4 S4 _ re4 rs4 h4 ?_
    have st14 := ((st2.trans st3).trans st4)
    cases r4 with
    | nx e => exact fun σ5 β5 H5 st5 rs5 re5 => ⟨β5, e, S4, st14.trans st5, rs5, re5, h2⟩
    | ct e => exact fun σ5 β5 H5 st5 rs5 re5 => ⟨β5, e, S4, st14.trans st5, rs5, re5, h2⟩
    | bk e =>
      cases h2
      exact fun σ5 β5 H5 st5 rs5 re5 => q σ5 β5 H5 (st1.trans (st14.trans st5)) rs5 re5
    | rt d =>
      cases h2
      exact fun v β5 H5 st5 rs5 re5 => q v β5 H5 (st1.trans (st14.trans st5)) rs5 re5
  · have e : i = ds.length := by omega
    subst e
    rw [List.drop_length] at h2
    cases h2
    exact .inl ⟨okS, q σ2 β2 H2 (st1.trans st2) rs2 re2⟩
end
theorem ds_for {X : Cx} {pos : Pos} {tg iter : Expr} {body : List Stmt} {fi : FA} {g : FG} {fb : FS} {is : List Nat} (hp : PassesOwn (model X.prog X.w) X.A X.env X.xe) (hi : DI X tg iter fi) (hg : DG X tg is g) (hb : DSs X body fb) (hc : X.calm = true := by rfl)
    (hs : ∀ x, foldedSetIterable iter X.env x = pure x := by intro _; rfl) : DS X (.For tg iter body [] pos) (sFor fi g fb) := by
  obtain ⟨wi, p1, r1⟩ := hi
  obtain ⟨t, p2, r2⟩ := hg
  exact ds_of (ps_for hp hc p1 p2 goSs hs) (rd_for r1 r2 hb.run)

/-! ### while -/
def whGo (c : FT) (body : FS) : Nat → Env → Store → Option (Rt × Store)
  | 0, _, _ => none
  | n + 1, env, S => bnd (c env S) fun b S1 => if b then bnd (body env S1) fun r S2 => (match r with
      | .nx e => whGo c body n e S2
      | .ct e => whGo c body n e S2
      | .bk e => some (.nx e, S2)
      | .rt d => some (.rt d, S2))
    else some (.nx env, S1)
def sWhile (n : Nat) (c : FT) (body : FS) : FS := whGo c body n
theorem rd_while {K : PySem.W.Frag} {tc : TT} {tb : TS} {fc : FT} {fb : FS} {n : Nat} (hc : RdT K tc fc) (hb : RdS K tb fb) : RdS K (tWhile tc tb) (sWhile n fc fb) := by
  intro σ β H env S r S' N re rs hf q
  refine ⟨fun m σ' H' => ∃ β' env' S2, Step β H β' H' ∧ RS K β' H' S2 ∧ RE K β' H' env' σ' ∧ whGo fc fb m env' S2 = some (r, S'), ⟨n, β, env, S, .refl, rs, re, hf⟩, ?_⟩
  rintro m σ2 H2 ⟨β2, env2, S2, st2, rs2, re2, h2⟩
  cases m with
  | zero => cases h2
  | succ m =>
    obtain ⟨b, S3, h3, h2⟩ := bnd_inv (show bnd (fc env2 S2) _ = some (r, S') from h2)
    refine hc σ2 β2 H2 env2 S2 b S3 _ re2 rs2 h3 fun β3 H3 st3 rs3 => ?_
    cases b with
    | true =>
      rw [if_pos rfl] at h2 ⊢
      obtain ⟨r4, S4, h4, h2⟩ := bnd_inv h2
      refine ⟨fun σ' H' => ∃ β' env' S2, Step β H β' H' ∧ RS K β' H' S2 ∧ RE K β' H' env' σ' ∧ whGo fc fb m env' S2 = some (r, S'), fun σ' H' h => ⟨m, Nat.lt_succ_self _, h⟩, ?_⟩
      refine hb σ2 β3 H3 env2 S3 r4 S4 _ (re2.step st3) rs3 h4 ?_
      have st := st2.trans st3
      cases r4 with
      | nx e => exact fun σ5 β5 H5 st5 rs5 re5 => ⟨β5, e, S4, st.trans st5, rs5, re5, h2⟩
      | ct e => exact fun σ5 β5 H5 st5 rs5 re5 => ⟨β5, e, S4, st.trans st5, rs5, re5, h2⟩
      | bk e =>
        cases h2
        exact fun σ5 β5 H5 st5 rs5 re5 => q σ5 β5 H5 (st.trans st5) rs5 re5
      | rt d =>
        cases h2
        exact fun v β5 H5 st5 rs5 re5 => q v β5 H5 (st.trans st5) rs5 re5
    | false =>
      rw [if_neg Bool.false_ne_true] at h2 ⊢
      cases h2
      exact q σ2 β3 H3 (st2.trans st3) rs3 (re2.step st3)
theorem ds_while {X : Cx} {pos : Pos} {c : Expr} {body : List Stmt} {fc : FT} {fb : FS} {n : Nat} (hp : PassesOwn (model X.prog X.w) X.A X.env X.xe) (hc : DT X c fc) (hb : DSs X body fb) : DS X (.While c body [] pos) (sWhile n fc fb) :=
  ds_of (ps_while hp goT goSs) (rd_while hc.run hb.run)

/-! ### what is closed -/
def fCl (f : FE) : FE := fun env S => bnd (f env S) fun d S1 => closeV S.length d S1
theorem rd_cl {K : PySem.W.Frag} {t : TE} {f : FE} (h : RdE K t f) : RdE K t (fCl f) := by
  intro σ β H env S d S' Q re rs hf q
  obtain ⟨d1, S1, e1, hf⟩ := bnd_inv hf
  refine h σ β H env S d1 S1 _ re rs e1 fun v β1 H1 st1 rs1 r1 => ?_
  obtain ⟨a, b⟩ := closeV_ok rs1 r1 hf
  exact q v _ H1 (st1.cut rs.dom) a b

/-! ### comprehensions -/
def wipeE (env : Env) : List Nat → Env
  | [] => env
  | v :: vs => (wipeE env vs).set v none
theorem RE.wipe {K : PySem.W.Frag} {β : Bt} {H : Hp} {env : Env} {σ : L2.St} (h : RE K β H env σ) : ∀ vs : List Nat, RE K β H (wipeE env vs) (wipe σ vs)
  | [] => h
  | v :: vs => by
    have ih := RE.wipe h vs
    unfold wipeE L2.wipe
    refine ⟨by simp [ih.len], fun i d e => ?_⟩
    by_cases hv : v = i
    · subst hv
      by_cases hl : v < (wipeE env vs).length
      · rw [List.getElem?_set_self hl] at e; cases e
      · rw [List.getElem?_eq_none (by simpa using hl)] at e; cases e
    · rw [List.getElem?_set_ne hv] at e ⊢
      exact ih.get i d e
def lcGo (tg : FG) (ts : FT) (elt : FE) (w : Env) (n : Nat) : List D → Store → Option Store
  | [], S => some S
  | d :: ds, S => bnd (tg d w S) fun e1 S1 => bnd (ts e1 S1) fun b S2 => if b then bnd (elt e1 S2) fun y S3 => (match S3[n]? with
      | some (.lst acc) => if acc.length < sizeLine then lcGo tg ts elt w n ds (S3.set n (.lst (acc ++ [y]))) else none
      | _ => none)
    else lcGo tg ts elt w n ds S2
/-- the new list a place -/
def fLcM (it : FA) (tg : FG) (ts : FT) (elt : FE) (vs : List Nat) : FE := fun env S => bnd (it env S) fun ds S1 =>
  (lcGo tg ts elt (wipeE env vs) S1.length ds (S1 ++ [.lst []])).map fun S2 => (.loc S1.length, S2)
def fLc (it : FA) (tg : FG) (ts : FT) (elt : FE) (vs : List Nat) : FE := fCl (fLcM it tg ts elt vs)
def tYesF : FT := fun _ S => some (true, S)
section
variable {K : PySem.W.Frag} {wi : TI} {fi : FA} {tg : TG} {g : FG} {tt : TT} {ft : FT} {te : TE} {fe : FE} {is vs : List Nat}
theorem wipe_wipe (σ : L2.St) (vs : List Nat) : L2.wipe (L2.wipe σ vs) vs = L2.wipe σ vs := by
  have h : ∀ (us ws : List Nat), (∀ i ∈ us, i ∈ ws) → L2.wipe (L2.wipe σ us) ws = L2.wipe σ ws := by
    intro us
    induction us with
    | nil => intro ws _; rfl
    | cons u us ih =>
      intro ws h
      show L2.wipe ((L2.wipe σ us).set u none) ws = _
      rw [wipe_set (h u (by simp)), ih ws fun i hi => h i (List.mem_cons_of_mem _ hi)]
  exact h vs vs fun _ h => h
theorem rd_lc (hi : RdI K wi fi) (hg : RdG K is tg g) (ht : RdT K tt ft) (he : RdE K te fe) (hv : ∀ i ∈ is, i ∈ vs) : RdE K (tLc wi tg tt te vs) (fLcM fi g ft fe vs) := by
  intro σ β H env S d S' Q re rs hf q
  obtain ⟨ds, S1, e1, hf⟩ := bnd_inv hf
  obtain ⟨Sf, e2, e3⟩ := Option.map_eq_some_iff.mp hf
  cases e3
  refine hi σ β H env S ds S1 _ re rs e1 fun J β1 H1 st1 rs1 ok D hD => ?_
  have stP : Step β1 H1 (bset β1 S1.length D) (upd H1 D (.lst [])) := .place rs1 hD
  have rsP : RS K (bset β1 S1.length D) (upd H1 D (.lst [])) (S1 ++ [.lst []]) := rs1.place hD (.lst .nil)
  have bP : bset β1 S1.length D S1.length = some D := by unfold bset; rw [if_pos rfl]
  refine ⟨fun i m H' => m = ds.length - i ∧ i ≤ ds.length ∧ ∃ β' S2, Step (bset β1 S1.length D) (upd H1 D (.lst [])) β' H' ∧ RS K β' H' S2 ∧ lcGo g ft fe (wipeE env vs) S1.length (ds.drop i) S2 = some S',
    ⟨ds.length, by simp, Nat.zero_le _, _, _, .refl, rsP, by simpa using e2⟩, ?_⟩
  rintro i m H2 ⟨rfl, hi', β2, S2, st2, rs2, h2⟩
  have st12 := stP.trans st2
  obtain ⟨okI, okS⟩ := ok β2 H2 st12
  by_cases hlt : i < ds.length
  · have hd : ds.drop i = ds[i] :: ds.drop (i + 1) := List.drop_eq_getElem_cons hlt
    rw [hd] at h2
    obtain ⟨e3, S3, h3, h2⟩ := bnd_inv (show bnd (g ds[i] (wipeE env vs) S2) _ = some S' from h2)
    obtain ⟨b, S4, h4, h2⟩ := bnd_inv h2
    obtain ⟨go, yl⟩ := okI i ds[i] (List.getElem?_eq_getElem hlt)
    refine .inr ⟨go, fun H' => ∃ β' S5, Step (bset β1 S1.length D) (upd H1 D (.lst [])) β' H' ∧ RS K β' H' S5 ∧ lcGo g ft fe (wipeE env vs) S1.length (ds.drop (i + 1)) S5 = some S', fun H' ⟨β', S5, a1, a2, a3⟩ => ⟨ds.length - (i + 1), by omega, rfl, hlt, β', S5, a1, a2, a3⟩, fun x H3 y => ?_⟩
    obtain ⟨st3, rs3, rd3⟩ := yl x H3 y S2 rs2
    have reW : RE K β2 H3 (wipeE env vs) (L2.wipe σ vs) := ((re.step st1).wipe vs).step (st12.trans st3)
    refine hg (L2.wipe σ vs) β2 H3 (wipeE env vs) S2 ds[i] x e3 S3 _ reW rs3 rd3 h3 fun σ4 β4 H4 st4 rs4 re4 w4 => ⟨?_, ?_⟩
    · rw [w4 vs hv, wipe_wipe]
    refine ht σ4 β4 H4 e3 S3 b S4 _ re4 rs4 h4 fun β5 H5 st5 rs5 => ?_
    have st25 := ((st2.trans st3).trans st4).trans st5
    cases b with
    | true =>
      rw [if_pos rfl] at h2 ⊢
      obtain ⟨y', S6, h6, h2⟩ := bnd_inv h2
      refine he σ4 β5 H5 e3 S4 y' S6 _ (re4.step st5) rs5 h6 fun v β6 H6 st6 rs6 r6 => ?_
      have st26 := st25.trans st6
      have b6 : β6 S1.length = some D := st26.ext _ _ bP
      split at h2
      · rename_i acc hacc
        split at h2
        · rename_i hl
          obtain ⟨a, u, g1, g2, g3⟩ := rs6.obj _ _ hacc
          rw [b6] at g1
          cases g1
          cases g3 with
          | lst g3 =>
            refine ⟨_, g2, by rw [← g3.length]; exact hl, β6, _, st26.trans (.write b6), rs6.write b6 (.lst (g3.append (.one r6))), h2⟩
        · cases h2
      · cases h2
    | false =>
      rw [if_neg Bool.false_ne_true] at h2 ⊢
      exact ⟨β5, S4, st25, rs5, h2⟩
  · have e : i = ds.length := by omega
    subst e
    rw [List.drop_length] at h2
    cases h2
    exact .inl ⟨okS, q _ β2 H2 (st1.trans st12) rs2 (.loc (st2.ext _ _ bP))⟩
end
section
variable {X : Cx} {elt tg iter : Expr} {ifs : List Expr} {scope : Scope} {own : List (Str × Nat)} {pos : Pos} {fi : FA} {g : FG} {ft : FT} {fe : FE} {is : List Nat}
/-- a clause's tests -/
def DTs (X : Cx) (ifs : List Expr) (f : FT) : Prop := ∃ t, PTs X ifs t ∧ RdT X.K t f
theorem dts_nil : DTs X [] tYesF := ⟨_, pts_nil, by
  intro σ β H env S b S' Q re rs hf q
  cases hf
  exact q β H .refl rs⟩
theorem dts_one {c : Expr} {f : FT} (h : DT X c f) : DTs X [c] f := ⟨_, pts_one goT, h.run⟩
/-- the least reading of several contexts -/
def GoG (I : Type) (Xs : I → Cx) (e : Expr) : TG := fun v σ H Q => ∀ (i : I) (pins : List (Addr × Obj)) (s : Shared) (u : Value), Inv (Xs i) pins σ H s → RelV v u →
  wpAny (model (Xs i).prog (Xs i).w) (Xs i).A (assign e (Xs i).env u) (fun _ s' => ∃ σ' H', Inv (Xs i) pins σ' H' s' ∧ Q σ' H') (Xs i).xe s
abbrev BI := Shared × Hp × Addr × List (Str × Addr) × List Addr
abbrev blkX (X : Cx) (scope : Scope) (i : BI) : Cx := X.blk i.1 i.2.1 scope (compEnvC scope i.2.2.2.1 i.2.2.1 X.env) i.2.2.2.2
def GoTsI (X : Cx) (scope : Scope) (ifs : List Expr) : TT := fun σ H Q => ∀ (i : BI) pins s, Inv (blkX X scope i) pins σ H s →
  wpAny (model X.prog X.w) X.A (forIn ifs true fun c r => if r = true then do let ok ← isTrue c (blkX X scope i).env (eval c (blkX X scope i).env); pure (ForInStep.yield ok) else pure (ForInStep.yield r)) (TP (blkX X scope i) pins σ Q) (blkX X scope i).xe s
def GoEI (X : Cx) (scope : Scope) (e : Expr) : TE := fun σ H Q => ∀ (i : BI) pins s, Inv (blkX X scope i) pins σ H s → wpAny (model X.prog X.w) X.A (eval e (blkX X scope i).env) (EP (blkX X scope i) pins σ Q) (blkX X scope i).xe s
theorem rd_lcX (hN : X.N.Nodup) (hi : DI X tg iter fi) (ok : BlkOk X.N X.env.scope scope own) (hg : ∀ i : BI, DG (blkX X scope i) tg is g) (ht : ∀ i : BI, DTs (blkX X scope i) ifs ft) (he : ∀ i : BI, DE (blkX X scope i) elt fe) (hv : ∀ i ∈ is, i ∈ own.map (·.2)) :
    ∃ (wi : TI) (tG : TG) (tt : TT) (te : TE), PI X tg iter wi ∧ (∀ (s : Shared) (H : Hp) (C : Addr) (cl : List (Str × Addr)) (fp : List Addr), PG (X.blk s H scope (compEnvC scope cl C X.env) fp) tg tG) ∧ (∀ (s : Shared) (H : Hp) (C : Addr) (cl : List (Str × Addr)) (fp : List Addr), PTs (X.blk s H scope (compEnvC scope cl C X.env) fp) ifs tt) ∧
      (∀ (s : Shared) (H : Hp) (C : Addr) (cl : List (Str × Addr)) (fp : List Addr), PE (X.blk s H scope (compEnvC scope cl C X.env) fp) elt te) ∧ RdE X.K (tLc wi tG tt te (own.map (·.2))) (fLcM fi g ft fe (own.map (·.2))) := by
  obtain ⟨wi, p1, r1⟩ := hi
  refine ⟨wi, GoG BI (blkX X scope) tg, GoTsI X scope ifs, GoEI X scope elt, p1, fun s H C cl fp => ⟨fun pins s1 σ H1 v u Q I r h => h (s, H, C, cl, fp) pins s1 u I r⟩, fun s H C cl fp => ⟨fun pins s1 σ H1 Q I h => h (s, H, C, cl, fp) pins s1 I⟩,
    fun s H C cl fp => ⟨fun pins s1 σ H1 Q I h => h (s, H, C, cl, fp) pins s1 I⟩, ?_⟩
  refine rd_lc (is := is) r1 ?_ ?_ ?_ hv
  · intro σ β H env S d v env' S' Q re rs r hf q i pins s u I ru
    obtain ⟨t, p2, r2⟩ := hg i
    exact p2.run pins s σ H v u Q I ru (r2 σ β H env S d v env' S' Q re rs r hf q)
  · intro σ β H env S b S' Q re rs hf q i pins s I
    obtain ⟨t, p2, r2⟩ := ht i
    exact p2.run pins s σ H Q I (r2 σ β H env S b S' Q re rs hf q)
  · intro σ β H env S d S' Q re rs hf q i pins s I
    exact (he i).run σ β H env S d S' Q re rs hf q pins s I
theorem de_lcM (hN : X.N.Nodup) (hi : DI X tg iter fi) (ok : BlkOk X.N X.env.scope scope own) (hg : ∀ i : BI, DG (blkX X scope i) tg is g) (ht : ∀ i : BI, DTs (blkX X scope i) ifs ft) (he : ∀ i : BI, DE (blkX X scope i) elt fe)
    (hv : ∀ i ∈ is, i ∈ own.map (·.2) := by decide) (hc : X.calm = true := by rfl) (hs : ∀ x, foldedSetIterable iter X.env x = pure x := by intro _; rfl) :
    DE X (.ListComp elt [⟨tg, iter, ifs, 0⟩] scope pos) (fLcM fi g ft fe (own.map (·.2))) := by
  obtain ⟨wi, tG, tt, te, p1, p2, p3, p4, r⟩ := rd_lcX hN hi ok hg ht he hv
  exact de_of (pe_lc hc hN p1 ok p2 p3 p4 hs) r
theorem de_lc (hN : X.N.Nodup) (hi : DI X tg iter fi) (ok : BlkOk X.N X.env.scope scope own) (hg : ∀ i : BI, DG (blkX X scope i) tg is g) (ht : ∀ i : BI, DTs (blkX X scope i) ifs ft) (he : ∀ i : BI, DE (blkX X scope i) elt fe)
    (hv : ∀ i ∈ is, i ∈ own.map (·.2) := by decide) (hc : X.calm = true := by rfl) (hs : ∀ x, foldedSetIterable iter X.env x = pure x := by intro _; rfl) :
    DE X (.ListComp elt [⟨tg, iter, ifs, 0⟩] scope pos) (fLc fi g ft fe (own.map (·.2))) := by
  obtain ⟨wi, tG, tt, te, p1, p2, p3, p4, r⟩ := rd_lcX hN hi ok hg ht he hv
  exact de_of (pe_lc hc hN p1 ok p2 p3 p4 hs) (rd_cl r)
/-- name = [..] on one line -/
theorem ds_setLcM {j : Nat} {y : Str} {py spos : Pos} (hN : X.N.Nodup) (hi : DI X tg iter fi) (ok : BlkOk X.N X.env.scope scope own) (hg : ∀ i : BI, DG (blkX X scope i) tg is g) (ht : ∀ i : BI, DTs (blkX X scope i) ifs ft) (he : ∀ i : BI, DE (blkX X scope i) elt fe)
    (hsw : swapsWith (.ListComp elt [⟨tg, iter, ifs, 0⟩] scope pos) (some (.Name y py)) spos.line X.env = pure true) (hy : X.N[j]? = some y := by rfl) (hyl : X.env.scope.names.lookup y = some .local := by rfl)
    (hv : ∀ i ∈ is, i ∈ own.map (·.2) := by decide) (hc : X.calm = true := by rfl) (hs : ∀ x, foldedSetIterable iter X.env x = pure x := by intro _; rfl) :
    DS X (.Assign [.Name y py] (.ListComp elt [⟨tg, iter, ifs, 0⟩] scope pos) spos) (sSet j (fLcM fi g ft fe (own.map (·.2)))) := by
  obtain ⟨wi, tG, tt, te, p1, p2, p3, p4, r⟩ := rd_lcX hN hi ok hg ht he hv
  refine ds_of (ps_setLc hc hN hy hyl hsw p1 ok p2 p3 p4 hs) ?_
  intro σ β H env S d S' N re rs hf q
  obtain ⟨x, S1, e1, hf⟩ := bnd_inv hf
  cases hf
  exact r σ β H env S x S' _ re rs e1 fun v β1 H1 st1 rs1 r1 => q _ β1 H1 st1 rs1 ((re.step st1).set r1)
theorem ds_setLc {j : Nat} {y : Str} {py spos : Pos} (hN : X.N.Nodup) (hi : DI X tg iter fi) (ok : BlkOk X.N X.env.scope scope own) (hg : ∀ i : BI, DG (blkX X scope i) tg is g) (ht : ∀ i : BI, DTs (blkX X scope i) ifs ft) (he : ∀ i : BI, DE (blkX X scope i) elt fe)
    (hsw : swapsWith (.ListComp elt [⟨tg, iter, ifs, 0⟩] scope pos) (some (.Name y py)) spos.line X.env = pure true) (hy : X.N[j]? = some y := by rfl) (hyl : X.env.scope.names.lookup y = some .local := by rfl)
    (hv : ∀ i ∈ is, i ∈ own.map (·.2) := by decide) (hc : X.calm = true := by rfl) (hs : ∀ x, foldedSetIterable iter X.env x = pure x := by intro _; rfl) :
    DS X (.Assign [.Name y py] (.ListComp elt [⟨tg, iter, ifs, 0⟩] scope pos) spos) (sSet j (fLc fi g ft fe (own.map (·.2)))) := by
  obtain ⟨wi, tG, tt, te, p1, p2, p3, p4, r⟩ := rd_lcX hN hi ok hg ht he hv
  refine ds_of (ps_setLc hc hN hy hyl hsw p1 ok p2 p3 p4 hs) ?_
  intro σ β H env S d S' N re rs hf q
  obtain ⟨x, S1, e1, hf⟩ := bnd_inv hf
  cases hf
  exact rd_cl r σ β H env S x S' _ re rs e1 fun v β1 H1 st1 rs1 r1 => q _ β1 H1 st1 rs1 ((re.step st1).set r1)
end

/-! ### several names at once -/
def sTup (g : FG) (f : FE) : FS := fun env S => bnd (f env S) fun d S1 => bnd (g d env S1) fun e S2 => some (.nx e, S2)
def sPar (i j : Nat) (f : FA) : FS := fun env S => bnd (f env S) fun ds S1 => match ds with
  | [a, b] => some (.nx ((env.set i (some a)).set j (some b)), S1)
  | _ => none
section
variable {X : Cx} {pos : Pos} {e tg : Expr} {f : FE} {g : FG} {is : List Nat}
theorem ds_asg (he : DE X e f) (hg : DG X tg is g) (hs : swapsWithSole [tg] e pos.line X.env = pure false := by rfl) (hw : swappedStores [tg] e X.env = pure none := by rfl)
    (h1 : (assignEach [tg] X.env).map (·.2) = [assign tg X.env] := by rfl) : DS X (.Assign [tg] e pos) (sTup g f) := by
  obtain ⟨t, p, r⟩ := hg
  refine ds_of (ps_asg goE p hs hw h1) ?_
  intro σ β H env S d S' N re rs hf q
  obtain ⟨x, S1, e1, hf⟩ := bnd_inv hf
  obtain ⟨e2, S2, e3, hf⟩ := bnd_inv hf
  cases hf
  refine he.run σ β H env S x S1 _ re rs e1 fun v β1 H1 st1 rs1 r1 => ?_
  exact r σ β1 H1 env S1 x v _ S' _ (re.step st1) rs1 r1 e3 fun σ2 β2 H2 st2 rs2 re2 _ => q σ2 β2 H2 (st1.trans st2) rs2 re2
theorem ds_par {i j : Nat} {x y : Str} {a b : Expr} {fa : FA} {px py pt : Pos} {kt k2 : Nat} {pt2 : Pos} (hN : X.N.Nodup) (ha : DA X [a, b] fa) (hw : swappedStores [.Tuple [.Name x px, .Name y py] kt pt] (.Tuple [a, b] k2 pt2) X.env = pure (some [x, y]) := by rfl)
    (hi : X.N[i]? = some x := by rfl) (hj : X.N[j]? = some y := by rfl) (hij : i ≠ j := by decide) (hx : X.env.scope.names.lookup x = some .local := by rfl) (hy : X.env.scope.names.lookup y = some .local := by rfl) (hc : X.calm = true := by rfl)
    (hs : swapsWithSole [.Tuple [.Name x px, .Name y py] kt pt] (.Tuple [a, b] k2 pt2) pos.line X.env = pure false := by rfl) : DS X (.Assign [.Tuple [.Name x px, .Name y py] kt pt] (.Tuple [a, b] k2 pt2) pos) (sPar i j fa) := by
  refine ds_of (ps_par hc hN hi hj hij hx hy goA hw hs) ?_
  intro σ β H env S d S' N re rs hf q
  obtain ⟨ds, S1, e1, hf⟩ := bnd_inv hf
  refine ha.run σ β H env S ds S1 _ re rs e1 fun vs β1 H1 st1 rs1 r1 => ?_
  split at hf
  · cases hf
    cases r1 with
    | cons r1 r2 =>
      cases r2 with
      | cons r2 r3 =>
        cases r3
        exact ⟨_, _, rfl, q _ β1 H1 st1 rs1 (((re.step st1).set r1).set r2)⟩
  · cases hf
end

/-! ### x op= e, o[i] = e, o[i] op= e -/
def sAug (i : Nat) (o : F2) (f : FE) : FS := fun env S => match env[i]? with
  | some (some x) => bnd (f env S) fun y S1 => bnd (o x y S1) fun z S2 => some (.nx (env.set i (some z)), S2)
  | _ => none
def ixSet (S : Store) (o i v : D) : Option Store := match o, i with
  | .loc n, .int k => (match S[n]? with
    | some (.lst ds) => (ixN ds.length k).map fun j => S.set n (.lst (ds.set j v))
    | _ => none)
  | _, _ => none
def sSub (fe fo fi : FE) : FS := fun env S => bnd (fe env S) fun v S1 => bnd (fo env S1) fun o S2 => bnd (fi env S2) fun i S3 => (ixSet S3 o i v).map fun S4 => (.nx env, S4)
def sAugS (fo fi : FE) (op : F2) (fe : FE) : FS := fun env S => bnd (fo env S) fun o S1 => bnd (fi env S1) fun i S2 => bnd (oIx o i S2) fun x S3 => bnd (fe env S3) fun y S4 => bnd (op x y S4) fun z S5 => (ixSet S5 o i z).map fun S6 => (.nx env, S6)
section
variable {X : Cx} {K : PySem.W.Frag} {β : Bt} {H : Hp} {S S' : Store} {pos tpos : Pos} {e o i : Expr} {fe fo fi : FE} {op2 : F2} {r : R2}
theorem rd_set {x y z : D} {ov iv v : V} {Q : Hp → Prop} (rs : RS K β H S) (r1 : RD K β H x ov) (r2 : RD K β H y iv) (r3 : RD K β H z v) (h : ixSet S x y z = some S') (q : ∀ H', Step β H β H' → RS K β H' S' → Q H') : rSetL ov iv v H Q := by
  unfold ixSet at h
  split at h
  · rename_i n k
    split at h
    · rename_i ds hd
      obtain ⟨j, e1, e2⟩ := Option.map_eq_some_iff.mp h
      subst e2
      obtain ⟨a, u, g1, g2, g3⟩ := rs.obj _ _ hd
      cases r1 with
      | loc hl =>
        rw [g1] at hl
        cases hl
        cases r2
        cases g3 with
        | lst g3 =>
          exact ⟨a, _, k, j, rfl, rfl, g2, by rw [← g3.length]; exact e1, q _ (.write g1) (rs.write g1 (.lst (g3.set r3 j)))⟩
    · cases h
  · cases h
theorem ds_aug {j : Nat} {x : Str} {op : Operator} {pos' : Pos} (ho : OpR X (inplaceOp op) r) (hr : Rd2 X.K r op2) (hN : X.N.Nodup) (he : DE X e fe) (hi : X.N[j]? = some x := by rfl) (hx : Loc X.env.scope x := by first | exact Or.inl rfl | exact Or.inr rfl) (hf : X.fn x = true ∨ X.env.scope.names.lookup x = some .local := by first | exact .inl rfl | exact .inr rfl | assumption) :
    DS X (.AugAssign (.Name x pos') op e pos) (sAug j op2 fe) := by
  refine ds_of (ps_aug (ti := r) hN hi hx goE (fun pins s σ H x y v u Q I rx ry h => ho pins s σ H x y v u Q I rx ry h) hf) ?_
  intro σ β H env S d S' N re rs hf q
  unfold sAug at hf
  split at hf
  · rename_i x hx
    obtain ⟨y, S1, e1, hf⟩ := bnd_inv hf
    obtain ⟨z, S2, e2, hf⟩ := bnd_inv hf
    cases hf
    obtain ⟨v, hv, rv⟩ := re.get _ _ hx
    refine ⟨v, hv, he.run σ β H env S y S1 _ re rs e1 fun w β1 H1 st1 rs1 r1 => ?_⟩
    refine hr β1 H1 S1 x y v w z S' _ rs1 (RD.step st1 _ _ rv) r1 e2 fun z' β2 H2 st2 rs2 r2 => ?_
    exact q _ β2 H2 (st1.trans st2) rs2 (((re.step st1).step st2).set r2)
  · cases hf
theorem ds_sub (he : DE X e fe) (ho : DE X o fo) (hi : DE X i fi) (hs : swapsWithSole [.Subscript o i tpos] e pos.line X.env = pure false := by rfl) (hw : swappedStores [.Subscript o i tpos] e X.env = pure none := by rfl)
    (h1 : (assignEach [.Subscript o i tpos] X.env).map (·.2) = [assign (.Subscript o i tpos) X.env] := by rfl)
    (ha : ∀ v, assign (.Subscript o i tpos) X.env v = (do
      let ov ← holding [v] (eval o X.env)
      let iv ← holding [v, ov] (eval i X.env)
      standAt tpos
      holding [v, ov, iv] (setItem ov iv v)
      release [v, ov, iv] []) := by intro _; rfl) : DS X (.Assign [.Subscript o i tpos] e pos) (sSub fe fo fi) := by
  refine ds_of (ps_asg goE (pg_sub goE goE set_list ha) hs hw h1) ?_
  intro σ β H env S d S' N re rs hf q
  obtain ⟨x, S1, e1, hf⟩ := bnd_inv hf
  obtain ⟨y, S2, e2, hf⟩ := bnd_inv hf
  obtain ⟨z, S3, e3, hf⟩ := bnd_inv hf
  obtain ⟨S4, e4, e5⟩ := Option.map_eq_some_iff.mp hf
  cases e5
  refine he.run σ β H env S x S1 _ re rs e1 fun v β1 H1 st1 rs1 r1 => ?_
  refine ho.run σ β1 H1 env S1 y S2 _ (re.step st1) rs1 e2 fun ov β2 H2 st2 rs2 r2 => ?_
  refine hi.run σ β2 H2 env S2 z S3 _ ((re.step st1).step st2) rs2 e3 fun iv β3 H3 st3 rs3 r3 => ?_
  have st := (st1.trans st2).trans st3
  exact rd_set rs3 (RD.step st3 _ _ r2) r3 (RD.step st3 _ _ (RD.step st2 _ _ r1)) e4 fun H4 st4 rs4 => q _ β3 H4 (st.trans st4) rs4 (re.step (st.trans st4))
end
end Mir

set_option Elab.async false
set_option linter.all false
set_option maxRecDepth 100000
set_option autoImplicit false
set_option maxHeartbeats 1000000
/-! Mir6: calls, defs, the head. -/
namespace Mir
open PySem L2

/-! ### a def and what it is worth -/
def spF (K : PySem.W.Frag) (F : FF) (vs : List V) (H : Hp) (Q : VK) : Prop := ∃ (β : Bt) (S : Store) (ds : List D) (d : D) (S' : Store), RS K β H S ∧ RDs K β H ds vs ∧ F ds S = some (d, S') ∧ PostE K β H S' d Q
/-- the def at f is worth F; where nothing is being written out (repr) -/
structure FnG (P : Program) (w : World) (K : PySem.W.Frag) (mg : Str → Option Value) (base : Heap) (k : Nat) (f : Addr) (fd : FuncData) (ps : List Str) (F : FF) : Prop where
  len : ∀ ds S r, F ds S = some r → ds.length = ps.length
  run : ∀ (A : Around) (out : List PySem.Env) (s : Shared) (H : Hp) (args : Args) (us : List Value) (vs : List V) (Q : VK), Room k A → A.guards = some [] → Env0 P w K mg base A out s H → BindsTo s fd args (ps.zip us) → Vals vs us → spF K F vs H Q →
    codeAny (model P w) A (.call (.ref f) args) (CR CX0 out P w H s Q E0) s
theorem FnG.mono {P : Program} {w : World} {K : PySem.W.Frag} {mg : Str → Option Value} {base : Heap} {j k : Nat} {f : Addr} {fd : FuncData} {ps : List Str} {F : FF} (h : FnG P w K mg base j f fd ps F) (hj : j ≤ k) : FnG P w K mg base k f fd ps F :=
  ⟨h.len, fun A out s H args us vs Q hr => h.run A out s H args us vs Q (hr.mono hj)⟩
/-- a def of the module that may be called: its name, its worth -/
structure Def (P : Program) (w : World) (K : PySem.W.Frag) (mg : Str → Option Value) (base : Heap) (k : Nat) (x : Str) (f : Addr) (F : FF) : Prop where
  ex : ∃ (fd : FuncData) (ps : List Str), FnG P w K mg base k f fd ps F ∧ PySem.W.keepIn K (.ref f) = true ∧ Binds K fd ps []
  at_ : mg x = some (.ref f)
theorem Def.mono {P : Program} {w : World} {K : PySem.W.Frag} {mg : Str → Option Value} {base : Heap} {j k : Nat} {x : Str} {f : Addr} {F : FF} (h : Def P w K mg base j x f F) (hj : j ≤ k) : Def P w K mg base k x f F := by
  obtain ⟨⟨fd, ps, h1, h2, h3⟩, h4⟩ := h
  exact ⟨⟨fd, ps, h1.mono hj, h2, h3⟩, h4⟩
/-- what a body may lean on -/
structure Up (X : Cx) (k : Nat) : Prop where
  room : Room k X.A
  quiet : X.A.guards = some []
theorem Up.mono {X : Cx} {j k : Nat} (h : Up X k) (hj : j ≤ k) : Up X j := ⟨h.room.mono hj, h.quiet⟩
theorem Up.blk {X : Cx} {k : Nat} (h : Up X k) (scope : Scope) (i : BI) : Up (blkX X scope i) k := ⟨h.room, h.quiet⟩

def fCall (F : FF) (g : FA) : FE := fun env S => bnd (g env S) fun xs S1 => F xs S1
section
variable {X : Cx} {k : Nat} {x : Str} {f : Addr} {F : FF} {p pos : Pos} {e : Expr} {es : List Expr} {g : FA}
theorem run_g {fd : FuncData} {ps : List Str} (h : FnG X.prog X.w X.K X.mg X.base k f fd ps F) (hu : Up X k) (hb : Binds X.K fd ps []) {pins : List (Addr × Obj)} {σ : L2.St} {H : Hp} {s : Shared} {Q : VK} {us : List Value} {vs : List V}
    (I : Inv X pins σ H s) (r : Vals vs us) (q : spF X.K F vs H Q) : wpAny (model X.prog X.w) X.A (call (.ref f) us) (EP X pins σ Q) X.xe s := by
  have hl : us.length = ps.length := by
    obtain ⟨β, S, ds, d, S', _, r2, e, _⟩ := id q
    rw [← r.length, ← r2.length]
    exact h.len _ _ _ e
  have hb2 := hb s us I.kIn (by rw [List.append_nil]; exact hl)
  rw [List.append_nil] at hb2
  refine wpAny_call (codeAny_mono (h.run X.A X.stack s H ⟨us, []⟩ us vs Q hu.room hu.quiet I.env0 hb2 r q) fun r s' hq => ?_)
  cases r with
  | error e => exact False.elim hq
  | ok fl =>
    cases fl with
    | ret u => exact I.after hq
    | next => exact False.elim hq
    | brk => exact False.elim hq
    | cont => exact False.elim hq
/-- f(..), f a def of the module -/
theorem de_call (D0 : Def X.prog X.w X.K X.mg X.base k x f F) (hu : Up X k) (ha : DA X (e :: es) g) (hg : Gl X x := by rfl) (hdb : (x == ("__debug__" : Str)) = false := by decide)
    (he : starEach (e :: es) X.env = (false, eval e X.env) :: starEach es X.env := by first | exact st_cons rfl | rfl) (hpl : (backTo pos (starEach es X.env)).any (·.1) = false := by first | exact st_plain rfl | rfl) : DE X (.Call (.Name x p) (e :: es) [] pos) (fCall F g) := by
  refine ⟨?_⟩; intro σ β H env S d S' Q re rs hf q pins s I
  obtain ⟨xs, S1, e1, hf⟩ := bnd_inv hf
  obtain ⟨⟨fd, ps, h1, h2, h3⟩, h4⟩ := D0
  refine wpAny_Call_Name_kw (ld_glob I hg h4 ?_ hdb)
  refine PySem.W.callWith_K (h₀ := X.base) I.ok.mod.kin h2 (thn (goA.run pos pins s σ H _ I (ha.run σ β H env S xs S1 (fun vs H1 => spF X.K F vs H1 Q) re rs e1 fun vs β1 H1 st1 rs1 r1 => ⟨β1, S1, xs, d, S', rs1, r1, hf, q.step st1⟩)) fun us s1 ⟨vs, H1, I1, r, q1⟩ => ⟨I1.kIn, ?_⟩) he hpl
  exact run_g h1 hu h3 I1 r q1
theorem de_call0 (D0 : Def X.prog X.w X.K X.mg X.base k x f F) (hu : Up X k) (hg : Gl X x := by rfl) (hdb : (x == ("__debug__" : Str)) = false := by decide) : DE X (.Call (.Name x p) [] [] pos) (fCall F fNil) := by
  refine ⟨?_⟩; intro σ β H env S d S' Q re rs hf q pins s I
  obtain ⟨⟨fd, ps, h1, h2, h3⟩, h4⟩ := D0
  refine wpAny_Call_Name_kw (ld_glob I hg h4 ?_ hdb)
  exact PySem.W.callWith_K0 I.kIn h2 (run_g h1 hu h3 I .nil ⟨β, S, [], d, S', rs, .nil, hf, q⟩)
/-- v(..), v a local that holds a def: tab tells the worth of each that may stand there -/
def fCallV (tab : Addr → Option FF) (i : Nat) (g : FA) : FE := fun env S => match env[i]? with
  | some (some (.raw (.ref a))) => (match tab a with
    | some F => bnd (g env S) fun xs S1 => F xs S1
    | none => none)
  | _ => none
theorem de_callV {i : Nat} {tab : Addr → Option FF} (ht : ∀ a F, tab a = some F → ∃ (fd : FuncData) (ps : List Str), FnG X.prog X.w X.K X.mg X.base k a fd ps F ∧ PySem.W.keepIn X.K (.ref a) = true ∧ Binds X.K fd ps []) (hu : Up X k) (ha : DA X (e :: es) g)
    (hN : X.N[i]? = some x := by rfl) (hv : Vis X.env.scope x := by first | exact Or.inl rfl | exact Or.inr (Or.inl rfl) | exact Or.inr (Or.inr rfl)) (hdb : (x == ("__debug__" : Str)) = false := by decide) (hcd : (x == ("__classdict__" : Str)) = false := by decide)
    (he : starEach (e :: es) X.env = (false, eval e X.env) :: starEach es X.env := by first | exact st_cons rfl | rfl) (hpl : (backTo pos (starEach es X.env)).any (·.1) = false := by first | exact st_plain rfl | rfl) : DE X (.Call (.Name x p) (e :: es) [] pos) (fCallV tab i g) := by
  refine ⟨?_⟩; intro σ β H env S d S' Q re rs hf q pins s I
  unfold fCallV at hf
  split at hf
  · rename_i a ha'
    split at hf
    · rename_i F0 hF
      obtain ⟨xs, S1, e1, hf⟩ := bnd_inv hf
      obtain ⟨fd, ps, h1, h2, h3⟩ := ht a F0 hF
      obtain ⟨v, hv2, rv⟩ := re.get _ _ ha'
      cases rv
      refine wpAny_Call_Name_kw (thn ((pe_var (pos := p) hN hv hdb hcd).run pins s σ H (fun v H1 => v = .ref a ∧ H1 = H) I ⟨.ref a, hv2, rfl, rfl⟩) fun u s1 ⟨v, H1, I1, r1, q1⟩ => ?_)
      obtain ⟨rfl, rfl⟩ := q1
      cases r1
      refine PySem.W.callWith_K (h₀ := X.base) I.ok.mod.kin h2 (thn (goA.run pos pins s1 σ _ _ I1 (ha.run σ β _ env S xs S1 (fun vs H1 => spF X.K F0 vs H1 Q) re rs e1 fun vs β1 H1 st1 rs1 r1 => ⟨β1, S1, xs, d, S', rs1, r1, hf, q.step st1⟩)) fun us s2 ⟨vs, H2, I2, r, q2⟩ => ⟨I2.kIn, ?_⟩) he hpl
      exact run_g h1 hu h3 I2 r q2
    · cases hf
  · cases hf
end

/-! ### a def's worth from its body's -/
def fnF (n m : Nat) (g : FS) : FF := fun ds S => if ds.length = m then (match g (ds.map some ++ List.replicate (n - m) none) S with
    | some (.rt d, S') => closeV S.length d S'
    | some (.nx _, S') => closeV S.length .non S'
    | _ => none)
  else none
theorem RE.start {K : PySem.W.Frag} {β : Bt} {H : Hp} {ds : List D} {vs : List V} {N : List Str} {n m : Nat} (h : RDs K β H ds vs) (hn : n = N.length) (hm : ds.length = m) : RE K β H (ds.map some ++ List.replicate (n - m) none) (L2.start N vs) := by
  subst hn hm
  unfold L2.start
  refine ⟨by simp [h.length], fun i d e => ?_⟩
  by_cases hi : i < ds.length
  · rw [List.getElem?_append_left (by simpa using hi), List.getElem?_map] at e
    obtain ⟨d', hd, e2⟩ := Option.map_eq_some_iff.mp e
    cases e2
    obtain ⟨v, hv, r⟩ := h.get hd
    exact ⟨v, by rw [List.getElem?_append_left (by rw [List.length_map, ← h.length]; exact hi), List.getElem?_map, hv]; rfl, r⟩
  · rw [List.getElem?_append_right (by simpa using hi), List.getElem?_replicate] at e
    split at e <;> cases e
section
variable {P : Program} {w : World} {K : PySem.W.Frag} {mg : Str → Option Value} {base : Heap}
theorem fnG_of {x qual : Str} {st : Stmt} {f : Addr} {fd : FuncData} {N ps : List Str} {k n m : Nat} {g : FS} (F0 : Fun K x qual st f fd) (S0 : FnScope N ps (defScope st)) (hn : n = N.length) (hm : m = ps.length)
    (body : ∀ X : Cx, X.prog = P → X.w = w → X.K = K → X.mg = mg → X.base = base → X.N = N → X.env.scope = defScope st → X.calm = true → (∀ y, X.fn y = true) → PassesOwn (model X.prog X.w) X.A X.env X.xe → Up X k → DSs X (defBody st) g) : FnG P w K mg base (k + 1) f fd ps (fnF n m g) := by
  obtain ⟨oc, od, kV, doc, pm, an, cdv, ct, osl, rfl, lk, hcd⟩ := F0.ex
  refine ⟨fun ds S r e => ?_, fun A out s H args us vs Q hr hq e0 hb r hsp => ?_⟩
  · unfold fnF at e
    split at e
    · rename_i h
      exact h.trans hm
    · cases e
  · obtain ⟨β, S, ds, d, S', rs, rd, hf, q⟩ := hsp
    have hlen : ds.length = m := Classical.byContradiction fun z => by
      unfold fnF at hf
      rw [if_neg z] at hf
      cases hf
    unfold fnF at hf
    rw [if_pos hlen] at hf
    have hl : vs.length = ps.length := by rw [← rd.length, hlen, hm]
    have KX : K.In s.heap := e0.mod.kin.keeps fun b o e => (e0.bs b o e).1
    have lim : s.heap.NoLimit := e0.mod.nolimit.keeps fun b o e => (e0.bs b o e).1
    have hkind : ∀ y ∈ ps.zip us, (defScope st).names.lookup y.1 = some .local ∨ ((defScope st).names.lookup y.1 = some .cell ∧ ((cellsFrom (s.heap.objs.size + 1) (defScope st).names []).lookup y.1).isSome = true) := by
      rintro ⟨n, v⟩ hy
      exact (S0.par n (List.of_mem_zip hy).1).imp id fun c => ⟨c, PySem.W.cellsFrom_some _ _ _ (.inl c)⟩
    refine codeAny_call_function hr.depth (KX _ _ lk) rfl S0.co S0.gen rfl (PySem.W.codeRec_of KX hcd) (hb _ _ _ _ ?_)
    refine wpAny_newFunctionEnv_cells S0.kind hkind fun env he s1 x => ?_
    subst he
    refine ⟨lim.keeps x.toInCall.keep, codeAny_func ?_⟩
    have I := (inv_start (CX := CX0) (E := E0) S0 hr.hd e0 hl r x : Inv (cxOf CX0 P w K mg base N qual (defScope st) f cdv A out s H E0) [] (L2.start N vs) H s1)
    have B := body (cxOf CX0 P w K mg base N qual (defScope st) f cdv A out s H E0).nox rfl rfl rfl rfl rfl rfl rfl rfl (fun _ => rfl) PassesOwn.never ⟨hr.deeper _, hq⟩
    have fin : ∀ {s' : Shared} {σ' : L2.St} {H' : Hp} {v : V} {u : Value}, Inv (cxOf CX0 P w K mg base N qual (defScope st) f cdv A out s H E0) [] σ' H' s' → RelV v u → Q v H' → CE out P w H s Q u s' :=
      fun {s' σ' H' v u} J rv q => ⟨v, H', J.os, J.bare, J.base, J.hok, rv, q⟩
    split at hf
    · rename_i d1 S1 hg
      have go := B.run (L2.start N vs) β H _ S (.rt d1) S1 { nx := fun _ H' => Q .non H', rt := Q } (RE.start rd hn hlen) rs hg (fun v β1 H1 st1 rs1 r1 => by
        obtain ⟨a, b⟩ := closeV_ok rs1 r1 hf
        exact q v _ H1 (st1.cut rs.dom) a b)
      refine wpAny_mono (goSs.nox.run [] s1 (L2.start N vs) H _ I go) (fun fl s' hs => ?_) fun e s' hs => hs
      cases fl with
      | ret u =>
        obtain ⟨v, σ', H', J, rv, q⟩ := hs
        exact fin J rv q
      | next =>
        obtain ⟨σ', H', J, q⟩ := hs
        exact fin (v := V.non) (u := Value.none) J rfl q
      | brk =>
        obtain ⟨_, _, _, z⟩ := hs
        exact False.elim z
      | cont =>
        obtain ⟨_, _, _, z⟩ := hs
        exact False.elim z
    · rename_i e1 S1 hg
      have go := B.run (L2.start N vs) β H _ S (.nx e1) S1 { nx := fun _ H' => Q .non H', rt := Q } (RE.start rd hn hlen) rs hg (fun σ1 β1 H1 st1 rs1 re1 => by
        obtain ⟨a, b⟩ := closeV_ok rs1 (.non : RD K β1 H1 .non .non) hf
        exact q .non _ H1 (st1.cut rs.dom) a b)
      refine wpAny_mono (goSs.nox.run [] s1 (L2.start N vs) H _ I go) (fun fl s' hs => ?_) fun e s' hs => hs
      cases fl with
      | ret u =>
        obtain ⟨v, σ', H', J, rv, q⟩ := hs
        exact fin J rv q
      | next =>
        obtain ⟨σ', H', J, q⟩ := hs
        exact fin (v := V.non) (u := Value.none) J rfl q
      | brk =>
        obtain ⟨_, _, _, z⟩ := hs
        exact False.elim z
      | cont =>
        obtain ⟨_, _, _, z⟩ := hs
        exact False.elim z
    · cases hf
end
end Mir

set_option Elab.async false
set_option linter.all false
set_option maxRecDepth 100000
set_option autoImplicit false
set_option maxHeartbeats 1000000
/-! Mir7: built-ins by values. -/
namespace Mir
open PySem L2

section
variable {X : Cx} {x : Str} {p pos : Pos} {e : Expr} {es : List Expr} {g : FA} {id T : String} {r : List V → Hp → VK → Prop} {o : FF}
theorem rd_cb {K : PySem.W.Frag} {t : TA} (hr : RdN K r o) (h : RdA K t g) : RdE K (tCB r t) (fCall o g) := by
  intro σ β H env S d S' Q re rs hf q
  obtain ⟨xs, S1, e1, hf⟩ := bnd_inv hf
  refine h σ β H env S xs S1 _ re rs e1 fun vs β1 H1 st1 rs1 r1 => ?_
  exact hr β1 H1 S1 xs vs d S' Q rs1 r1 hf (q.step st1)
theorem de_callB (hc : CallR X (.builtin id) r) (hr : RdN X.K r o) (hm : X.mg x = none) (hv : bootBuiltins x = some (.builtin id)) (ha : DA X (e :: es) g) (hg : Gl X x := by rfl) (hn : x ≠ "__name__" := by decide) (hdb : (x == ("__debug__" : Str)) = false := by decide)
    (he : starEach (e :: es) X.env = (false, eval e X.env) :: starEach es X.env := by first | exact st_cons rfl | rfl) (hpl : (backTo pos (starEach es X.env)).any (·.1) = false := by first | exact st_plain rfl | rfl) : DE X (.Call (.Name x p) (e :: es) [] pos) (fCall o g) := de_of (pe_callB hc hg hm hv goA hn hdb he hpl) (rd_cb hr ha.run)
theorem de_callTy (hc : CallR X (.type T) r) (hr : RdN X.K r o) (hm : X.mg x = none) (hv : bootBuiltins x = some (.type T)) (ha : DA X (e :: es) g) (hg : Gl X x := by rfl) (hn : x ≠ "__name__" := by decide) (hdb : (x == ("__debug__" : Str)) = false := by decide)
    (he : starEach (e :: es) X.env = (false, eval e X.env) :: starEach es X.env := by first | exact st_cons rfl | rfl) (hpl : (backTo pos (starEach es X.env)).any (·.1) = false := by first | exact st_plain rfl | rfl) : DE X (.Call (.Name x p) (e :: es) [] pos) (fCall o g) := de_of (pe_callTy hc hg hm hv goA hn hdb he hpl) (rd_cb hr ha.run)
end

/-! ### what they are worth -/
def bAbs : FF := fun xs S => match xs with
  | [.int i] => some (.int (if i < 0 then -i else i), S)
  | _ => none
def bInt : FF := fun xs S => match xs with
  | [.int i] => some (.int i, S)
  | [.bl b] => some (.int (if b then 1 else 0), S)
  | _ => none
def bLen : FF := fun xs S => match xs with
  | [.str y] => if y.length ≤ sizeLine then some (.int y.length, S) else none
  | [x] => (seqOf S x).map fun ds => (.int ds.length, S)
  | _ => none
def asBls : List D → Option (List Bool)
  | [] => some []
  | .bl b :: ds => (asBls ds).map fun bs => b :: bs
  | _ => none
def asInts : List D → Option (List Int)
  | [] => some []
  | .int b :: ds => (asInts ds).map fun bs => b :: bs
  | _ => none
def asStrs : List D → Option (List Str)
  | [] => some []
  | .str b :: ds => (asStrs ds).map fun bs => b :: bs
  | _ => none
def bAll : FF := fun xs S => match xs with
  | [x] => ((lsOf S x).bind asBls).map fun bs => (.bl (bs.all id), S)
  | _ => none
def bAny : FF := fun xs S => match xs with
  | [x] => ((lsOf S x).bind asBls).map fun bs => (.bl (bs.any id), S)
  | _ => none
def bTuple : FF := fun xs S => match xs with
  | [.tup ds] => some (.tup ds, S)
  | [x] => (lsOf S x).map fun ds => (.tup ds, S)
  | _ => none
def bList : FF := fun xs S => match xs with
  | [x] => (seqOf S x).map fun ds => (.lst ds, S)
  | _ => none
/-- a new place -/
def bListM : FF := fun xs S => match xs with
  | [x] => (seqOf S x).map fun ds => (.loc S.length, S ++ [.lst ds])
  | _ => none
def sortZ (ns : List Int) : List Int := ns.mergeSort fun a b => decide (a ≤ b)
def leS (a b : Str) : Bool := decide (a.cps.toList ≤ b.cps.toList)
def sortS (xs : List Str) : List Str := xs.mergeSort leS
def bSorted : FF := fun xs S => match xs with
  | [x] => (lsOf S x).bind fun ds => if ds.length < 64 then (match asInts ds with
      | some ns => some (.lst ((sortZ ns).map D.int), S)
      | none => (asStrs ds).map fun ss => (.lst ((sortS ss).map D.str), S)) else none
  | _ => none
def bMax2 : FF := fun xs S => match xs with
  | [.int i, .int j] => some (.int (if j > i then j else i), S)
  | _ => none
def bMin2 : FF := fun xs S => match xs with
  | [.int i, .int j] => some (.int (if j < i then j else i), S)
  | _ => none
def bRepr : FF := fun xs S => match xs with
  | [x] => (rdS S x).py.bind fun p => if p.showable && !p.hasDict && decide (p.depth ≤ 60) && decide (p.shown.length ≤ sizeLine) then some (.str p.shown, S) else none
  | _ => none
/-- the name of a value's type -/
def tyD : D → Option String
  | .non => some "NoneType"
  | .bl _ => some "bool"
  | .int _ => some "int"
  | .str _ => some "str"
  | .tup _ => some "tuple"
  | .lst _ => some "list"
  | .fro _ => some "list"
  | .dic _ _ => some "dict"
  | _ => none
def isTy (a b : String) : Bool := a == b || (a == "bool" && b == "int")
def knownTy (b : String) : Bool := b == "int" || b == "bool" || b == "str" || b == "tuple" || b == "list" || b == "dict"
def bIsi : FF := fun xs S => match xs with
  | [x, .raw (.ty b)] => if knownTy b then (tyD x).map fun a => (.bl (isTy a b), S) else none
  | _ => none

section
variable {K : PySem.W.Frag} {β : Bt} {H : Hp}
theorem RDs.bls : ∀ {ds : List D} {vs : List V} {bs : List Bool}, RDs K β H ds vs → asBls ds = some bs → vs = bs.map V.bl
  | [], _, _, h, e => by cases h; cases e; rfl
  | .bl b :: ds, _, _, h, e => by
    obtain ⟨bs, e1, e2⟩ := Option.map_eq_some_iff.mp (show (asBls ds).map _ = _ from e)
    subst e2
    cases h with | cons h1 h2 => cases h1; rw [RDs.bls h2 e1]; rfl
theorem RDs.ints : ∀ {ds : List D} {vs : List V} {bs : List Int}, RDs K β H ds vs → asInts ds = some bs → vs = bs.map V.int
  | [], _, _, h, e => by cases h; cases e; rfl
  | .int b :: ds, _, _, h, e => by
    obtain ⟨bs, e1, e2⟩ := Option.map_eq_some_iff.mp (show (asInts ds).map _ = _ from e)
    subst e2
    cases h with | cons h1 h2 => cases h1; rw [RDs.ints h2 e1]; rfl
theorem RDs.strs : ∀ {ds : List D} {vs : List V} {bs : List Str}, RDs K β H ds vs → asStrs ds = some bs → vs = bs.map V.str
  | [], _, _, h, e => by cases h; cases e; rfl
  | .str b :: ds, _, _, h, e => by
    obtain ⟨bs, e1, e2⟩ := Option.map_eq_some_iff.mp (show (asStrs ds).map _ = _ from e)
    subst e2
    cases h with | cons h1 h2 => cases h1; rw [RDs.strs h2 e1]; rfl
theorem RDs.ofInts : ∀ ns : List Int, RDs K β H (ns.map D.int) (ns.map V.int)
  | [] => .nil
  | n :: ns => .cons (.int n) (RDs.ofInts ns)
theorem RDs.ofStrs : ∀ ns : List Str, RDs K β H (ns.map D.str) (ns.map V.str)
  | [] => .nil
  | n :: ns => .cons (.str n) (RDs.ofStrs ns)
theorem asInts_map : ∀ {ds : List D} {ns : List Int}, asInts ds = some ns → ds.length = ns.length
  | [], _, e => by cases e; rfl
  | .int b :: ds, _, e => by
    obtain ⟨bs, e1, e2⟩ := Option.map_eq_some_iff.mp (show (asInts ds).map _ = _ from e)
    subst e2
    simp [asInts_map e1]
theorem asStrs_map : ∀ {ds : List D} {ns : List Str}, asStrs ds = some ns → ds.length = ns.length
  | [], _, e => by cases e; rfl
  | .str b :: ds, _, e => by
    obtain ⟨bs, e1, e2⟩ := Option.map_eq_some_iff.mp (show (asStrs ds).map _ = _ from e)
    subst e2
    simp [asStrs_map e1]

theorem rn_abs : RdN K (fun xs H Q => ∃ i, xs = [.int i] ∧ Q (.int (if i < 0 then -i else i)) H) bAbs := by
  intro β H S xs vs d S' Q rs r hf q
  unfold bAbs at hf
  split at hf
  · cases hf
    cases r with | cons r1 r2 => cases r1; cases r2; exact ⟨_, rfl, q.now rs (.int _)⟩
  · cases hf
theorem rn_int : RdN K (fun xs H Q => (∃ i, xs = [.int i] ∧ Q (.int i) H) ∨ ∃ k, xs = [.bl k] ∧ Q (.int (if k then 1 else 0)) H) bInt := by
  intro β H S xs vs d S' Q rs r hf q
  unfold bInt at hf
  split at hf
  · cases hf
    cases r with | cons r1 r2 => cases r1; cases r2; exact .inl ⟨_, rfl, q.now rs (.int _)⟩
  · cases hf
    cases r with | cons r1 r2 => cases r1; cases r2; exact .inr ⟨_, rfl, q.now rs (.int _)⟩
  · cases hf
theorem rn_len : RdN K (fun xs H Q => ∃ x n, xs = [x] ∧ LenV K x H n ∧ Q (.int n) H) bLen := by
  intro β H S xs vs d S' Q rs r hf q
  unfold bLen at hf
  split at hf
  · cases r with
    | cons r1 r2 =>
      cases r1; cases r2
      split at hf
      · rename_i hl
        cases hf
        exact ⟨_, _, rfl, ⟨hl, rfl⟩, q.now rs (.int _)⟩
      · cases hf
  · cases r with
    | cons r1 r2 =>
      cases r2
      obtain ⟨ds, e1, e2⟩ := Option.map_eq_some_iff.mp hf
      cases e2
      obtain ⟨a, vs, rfl, h1, h2⟩ := rs.seq r1 e1
      rw [h2.length] at q
      rcases h1 with h1 | h1
      · exact ⟨_, _, rfl, .inl ⟨vs, h1, rfl⟩, q.now rs (.int _)⟩
      · exact ⟨_, _, rfl, .inr ⟨vs, h1, rfl⟩, q.now rs (.int _)⟩
  · cases hf
theorem rn_all : RdN K (rAll K) bAll := by
  intro β H S xs vs d S' Q rs r hf q
  unfold bAll at hf
  split at hf
  · cases r with
    | cons r1 r2 =>
      cases r2
      obtain ⟨bs, e1, e2⟩ := Option.map_eq_some_iff.mp hf
      cases e2
      obtain ⟨ds, e3, e4⟩ := Option.bind_eq_some_iff.mp e1
      obtain ⟨a, vs, rfl, h1, h2⟩ := rs.lsq r1 e3
      have := h2.bls e4
      subst this
      exact ⟨a, bs, rfl, h1, q.now rs (.bl _)⟩
  · cases hf
theorem rn_any : RdN K (rAny K) bAny := by
  intro β H S xs vs d S' Q rs r hf q
  unfold bAny at hf
  split at hf
  · cases r with
    | cons r1 r2 =>
      cases r2
      obtain ⟨bs, e1, e2⟩ := Option.map_eq_some_iff.mp hf
      cases e2
      obtain ⟨ds, e3, e4⟩ := Option.bind_eq_some_iff.mp e1
      obtain ⟨a, vs, rfl, h1, h2⟩ := rs.lsq r1 e3
      have := h2.bls e4
      subst this
      exact ⟨a, bs, rfl, h1, q.now rs (.bl _)⟩
  · cases hf
theorem rn_tuple : RdN K (fun xs H Q => ∃ p ys, xs = [.ref p] ∧ ((SqL K H p ys ∧ ∀ l, H l = none → Q (.ref l) (upd H l (.tup ys))) ∨ (SqT K H p ys ∧ Q (.ref p) H))) bTuple := by
  intro β H S xs vs d S' Q rs r hf q
  unfold bTuple at hf
  split at hf
  · cases hf
    cases r with
    | cons r1 r2 =>
      cases r2
      obtain ⟨a, vs, e, h1, h2⟩ := r1.sqt
      subst e
      exact ⟨a, vs, rfl, .inr ⟨h1, q.now rs r1⟩⟩
  · cases r with
    | cons r1 r2 =>
      cases r2
      obtain ⟨ds, e1, e2⟩ := Option.map_eq_some_iff.mp hf
      cases e2
      obtain ⟨a, vs, rfl, h1, h2⟩ := rs.lsq r1 e1
      exact ⟨a, vs, rfl, .inl ⟨h1, q.newT rs h2⟩⟩
  · cases hf
theorem rn_list : RdN K (fun xs H Q => ∃ p ys, xs = [.ref p] ∧ (SqL K H p ys ∨ SqT K H p ys) ∧ ∀ l, H l = none → Q (.ref l) (upd H l (.lst ys))) bList := by
  intro β H S xs vs d S' Q rs r hf q
  unfold bList at hf
  split at hf
  · cases r with
    | cons r1 r2 =>
      cases r2
      obtain ⟨ds, e1, e2⟩ := Option.map_eq_some_iff.mp hf
      cases e2
      obtain ⟨a, vs, rfl, h1, h2⟩ := rs.seq r1 e1
      exact ⟨a, vs, rfl, h1, q.newL rs h2⟩
  · cases hf
theorem rn_listM : RdN K (fun xs H Q => ∃ p ys, xs = [.ref p] ∧ (SqL K H p ys ∨ SqT K H p ys) ∧ ∀ l, H l = none → Q (.ref l) (upd H l (.lst ys))) bListM := by
  intro β H S xs vs d S' Q rs r hf q
  unfold bListM at hf
  split at hf
  · cases r with
    | cons r1 r2 =>
      cases r2
      obtain ⟨ds, e1, e2⟩ := Option.map_eq_some_iff.mp hf
      cases e2
      obtain ⟨a, vs, rfl, h1, h2⟩ := rs.seq r1 e1
      exact ⟨a, vs, rfl, h1, q.placeL rs h2⟩
  · cases hf
theorem sortZ_perm (ns : List Int) : (sortZ ns).Perm ns := List.mergeSort_perm ns _
theorem sortZ_sorted (ns : List Int) : (sortZ ns).Pairwise (· ≤ ·) := by
  have := List.pairwise_mergeSort (le := fun a b : Int => decide (a ≤ b)) (fun a b c h1 h2 => by simp at *; omega) (fun a b => by simp; omega) ns
  exact this.imp fun h => by simpa using h
theorem sortZ_unique {ns ms : List Int} (hp : ms.Perm ns) (hs : ms.Pairwise (· ≤ ·)) : ms = sortZ ns :=
  List.Perm.eq_of_pairwise (le := (· ≤ ·)) (fun a b _ _ h1 h2 => Int.le_antisymm h1 h2) hs (sortZ_sorted ns) (hp.trans (sortZ_perm ns).symm)
theorem rn_max2 : RdN K (fun xs H Q => ∃ i j, xs = [.int i, .int j] ∧ Q (.int (if j > i then j else i)) H) bMax2 := by
  intro β H S xs vs d S' Q rs r hf q
  unfold bMax2 at hf
  split at hf
  · cases hf
    cases r with | cons r1 r2 => cases r2 with | cons r2 r3 => cases r1; cases r2; cases r3; exact ⟨_, _, rfl, q.now rs (.int _)⟩
  · cases hf
theorem rn_min2 : RdN K (fun xs H Q => ∃ i j, xs = [.int i, .int j] ∧ Q (.int (if j < i then j else i)) H) bMin2 := by
  intro β H S xs vs d S' Q rs r hf q
  unfold bMin2 at hf
  split at hf
  · cases hf
    cases r with | cons r1 r2 => cases r2 with | cons r2 r3 => cases r1; cases r2; cases r3; exact ⟨_, _, rfl, q.now rs (.int _)⟩
  · cases hf

/-! ### isinstance -/
theorem tyX_of {d : D} {v : V} {a : String} (r : RD K β H d v) (e : tyD d = some a) : TyX K H v (.type a) := by
  cases r with
  | non => cases e; exact .base .non
  | bl b => cases e; exact .base (.bl b)
  | int i => cases e; exact .base (.int i)
  | str x => cases e; exact .base (.str x)
  | tup h1 h2 h3 =>
    cases e
    rcases h1 with h1 | ⟨o, h1⟩
    · exact .base (.tup h1)
    · exact .fTuple h1
  | ktup h1 h3 =>
    cases e
    obtain ⟨o, its, n, h1, h2, _⟩ := h1
    exact .kTuple h1 h2
  | lst h1 h2 h3 => cases e; exact .base (.lst h1)
  | fro h1 h2 h3 =>
    cases e
    rcases h1 with h1 | ⟨o, h1⟩
    · exact .base (.lst h1)
    · exact .base (.frz h1)
  | kfro h1 h3 =>
    cases e
    obtain ⟨o, its, n, h1, h2, _⟩ := h1
    exact .kList h1 h2
  | dic h1 h2 h3 h4 => cases e; exact .base (.dK h1)
  | loc => cases e
  | raw => cases e
theorem kit_all : (["NoneType", "bool", "int", "str", "tuple", "list", "dict"].all fun a => ["int", "bool", "str", "tuple", "list", "dict"].all fun b => kitB a b == some (isTy a b)) = true := by decide +kernel
theorem tyD_mem {d : D} {a : String} (e : tyD d = some a) : a ∈ ["NoneType", "bool", "int", "str", "tuple", "list", "dict"] := by
  cases d <;> first
    | (cases e; simp)
    | cases e
theorem known_mem {b : String} (e : knownTy b = true) : b ∈ ["int", "bool", "str", "tuple", "list", "dict"] := by
  unfold knownTy at e
  simp only [Bool.or_eq_true, beq_iff_eq] at e
  simp only [List.mem_cons, List.not_mem_nil, or_false]
  rcases e with ((((e | e) | e) | e) | e) | e <;> simp [e]
theorem rn_isi : RdN K (rIsi K) bIsi := by
  intro β H S xs vs d S' Q rs r hf q
  unfold bIsi at hf
  split at hf
  · rename_i x b
    split at hf
    · rename_i hk
      obtain ⟨a, e1, e2⟩ := Option.map_eq_some_iff.mp hf
      cases e2
      cases r with
      | cons r1 r2 =>
        cases r2 with
        | cons r2 r3 =>
          cases r3
          cases r2
          refine ⟨_, _, _, _, _, rfl, .ty b, tyX_of r1 e1, kit_ty (r := isTy a b) ?_, q.now rs (.bl _)⟩
          have h := List.all_eq_true.mp (List.all_eq_true.mp kit_all a (tyD_mem e1)) b (known_mem hk)
          exact beq_iff_eq.mp h
    · cases hf
  · cases hf

/-! ### sorted -/
theorem leS_trans (a b c : Str) (h1 : leS a b = true) (h2 : leS b c = true) : leS a c = true := by
  unfold leS at *
  rw [decide_eq_true_eq] at *
  exact List.le_trans h1 h2
theorem leS_total (a b : Str) : (leS a b || leS b a) = true := by
  unfold leS
  rw [Bool.or_eq_true, decide_eq_true_eq, decide_eq_true_eq]
  exact List.le_total _ _
theorem leS_anti (a b : Str) (h1 : leS a b = true) (h2 : leS b a = true) : a = b := by
  unfold leS at *
  rw [decide_eq_true_eq] at *
  have := List.le_antisymm h1 h2
  obtain ⟨x⟩ := a
  obtain ⟨y⟩ := b
  have h : x.toList = y.toList := this
  rw [Array.toList_inj.mp h]
theorem rising_le : ∀ (r : List Str) (p : Str), PyProof.Rows.risingS p r = true → (p :: r).Pairwise (fun a b => leS a b = true)
  | [], p, _ => by simp
  | x :: r, p, h => by
    have h : (!PySem.Spec.ltCps x.cps.toList p.cps.toList && PyProof.Rows.risingS x r) = true := h
    rw [Bool.and_eq_true, PyProof.Rows.ltCps_eq] at h
    have ih := rising_le r x h.2
    have hpx : leS p x = true := by
      unfold leS
      rw [decide_eq_true_eq]
      have := h.1
      simp only [Bool.not_eq_true', decide_eq_false_iff_not] at this
      exact List.not_lt.mp this
    refine List.pairwise_cons.mpr ⟨fun y hy => ?_, ih⟩
    rcases List.mem_cons.mp hy with rfl | hy
    · exact hpx
    · exact leS_trans p x y hpx ((List.pairwise_cons.mp ih).1 y hy)
theorem sortS_unique {ns ms : List Str} (hp : ms.Perm ns) (hs : PyProof.Rows.sortedS ms = true) : ms = sortS ns := by
  have h1 : ms.Pairwise (fun a b => leS a b = true) := by
    cases ms with
    | nil => exact .nil
    | cons x r => exact rising_le r x hs
  exact List.Perm.eq_of_pairwise (le := fun a b => leS a b = true) (fun a b _ _ => leS_anti a b) h1 (List.pairwise_mergeSort leS_trans leS_total ns) (hp.trans (List.mergeSort_perm ns _).symm)
theorem rn_sorted : RdN K (fun vs H Q => rSorted K vs H Q ∨ rSortedS K vs H Q) bSorted := by
  intro β H S xs vs d S' Q rs r hf q
  unfold bSorted at hf
  split at hf
  · cases r with
    | cons r1 r2 =>
      cases r2
      obtain ⟨ds, e1, hf⟩ := Option.bind_eq_some_iff.mp hf
      split at hf
      · rename_i hl
        obtain ⟨a, vs, rfl, h1, h2⟩ := rs.lsq r1 e1
        split at hf
        · rename_i ns e2
          cases hf
          have := h2.ints e2
          subst this
          refine .inl ⟨a, ns, rfl, h1, by rw [← asInts_map e2]; exact hl, fun ns' p hp hs hn => ?_⟩
          rw [sortZ_unique hp hs]
          exact q.newL rs (RDs.ofInts _) p hn
        · obtain ⟨ns, e2, e3⟩ := Option.map_eq_some_iff.mp hf
          cases e3
          have := h2.strs e2
          subst this
          refine .inr ⟨a, ns, rfl, h1, by rw [← asStrs_map e2]; exact hl, fun ns' p hp hs hn => ?_⟩
          rw [sortS_unique hp hs]
          exact q.newL rs (RDs.ofStrs _) p hn
      · cases hf
  · cases hf
end

/-! ### repr -/
def rRepr (K : PySem.W.Frag) : List V → Hp → VK → Prop := fun xs H Q => ∃ x p, xs = [x] ∧ Dp K H x p ∧ p.showable = true ∧ p.hasDict = false ∧ p.depth ≤ 60 ∧ p.shown.length ≤ sizeLine ∧ Q (.str p.shown) H
theorem call_repr {X : Cx} {k : Nat} (hu : Up X k) : CallR X (.builtin "repr") (rRepr X.K) := by
  intro pins s σ H xs us Q I r h
  obtain ⟨x, p, rfl, hd, h1, h2, h3, h4, q⟩ := h
  obtain ⟨u, rfl, r1⟩ := vals1 r
  obtain ⟨as, rd⟩ := Dp.reads I p x u hd r1
  have un := hu.room.units
  cases rd with
  | none => exact PySem.P.repr_of_none ⟨.str _, H, I.tok _, ⟨_, rfl⟩, by simpa only [PyData.shown] using q⟩
  | bool b => exact PySem.P.repr_of_bool ⟨.str _, H, I.tok _, ⟨_, rfl⟩, by simpa only [PyData.shown] using q⟩
  | int i t => exact PySem.P.repr_of_int (by simpa [PyData.showable] using h1) ⟨.str _, H, I.tok _, ⟨_, rfl⟩, by simpa only [PyData.shown] using q⟩
  | str y t => exact PySem.P.repr_of_str ⟨.str _, H, I.tok _, ⟨_, rfl⟩, by simpa only [PyData.shown] using q⟩ (by simpa only [PyData.shown] using h4)
  | list a1 a2 a3 a4 => exact PySem.repr_of_reads' (.list a1 a2 a3 a4) h1 (PyData.noDict_hsm h2) hu.quiet (by omega) (fun _ _ e => e) (fun h' u tk hk => ⟨.str _, H, I.kept hk, ⟨_, rfl⟩, q⟩) h4
  | tuple a1 a2 a3 a4 => exact PySem.repr_of_reads' (.tuple a1 a2 a3 a4) h1 (PyData.noDict_hsm h2) hu.quiet (by omega) (fun _ _ e => e) (fun h' u tk hk => ⟨.str _, H, I.kept hk, ⟨_, rfl⟩, q⟩) h4
  | dict => cases hd
theorem rn_repr {K : PySem.W.Frag} : RdN K (rRepr K) bRepr := by
  intro β H S xs vs d S' Q rs r hf q
  unfold bRepr at hf
  split at hf
  · cases r with
    | cons r1 r2 =>
      cases r2
      obtain ⟨p, e1, hf⟩ := Option.bind_eq_some_iff.mp hf
      split at hf
      · rename_i h
        cases hf
        simp only [Bool.and_eq_true, Bool.not_eq_true', decide_eq_true_eq] at h
        exact ⟨_, p, rfl, rs.dp r1 e1, h.1.1.1, h.1.1.2, h.1.2, h.2, q.now rs (.str _)⟩
      · cases hf
  · cases hf

/-! ### sep.join(list of texts) -/
def mJoin : F2 := fun x y S => match x with
  | .str a => ((lsOf S y).bind asStrs).bind fun ys => if (ys.map (·.length)).sum + ys.length * a.length ≤ 16777216 then some (.str (Txt.join a ys), S) else none
  | _ => none
theorem de_join {X : Cx} {apos pos : Pos} {o e : Expr} {fo fe : FE} (ho : DE X o fo) (he : DE X e fe) (hs : starEach [e] X.env = [(false, eval e X.env)] := by first | exact st_cons rfl | rfl) (hbase : attributeBase o "join" X.env (eval o X.env) = eval o X.env := by rfl) (hline : (apos.endLine == pos.line) = true := by rfl) :
    DE X (.Call (.Attribute o "join" apos) [e] [] pos) (fOp mJoin fo fe) := de_of (pe_join goE goE hs hbase hline) (by
  intro σ β H env S d S' Q re rs hf q
  obtain ⟨x, S1, e1, hf⟩ := bnd_inv hf
  obtain ⟨y, S2, e2, hf⟩ := bnd_inv hf
  refine ho.run σ β H env S x S1 _ re rs e1 fun v β1 H1 st1 rs1 r1 => ?_
  unfold mJoin at hf
  split at hf
  · cases r1
    refine ⟨⟨_, rfl⟩, he.run σ β1 H1 env S1 y S2 _ (re.step st1) rs1 e2 fun u β2 H2 st2 rs2 r2 => ?_⟩
    obtain ⟨ys, e3, hf⟩ := Option.bind_eq_some_iff.mp hf
    obtain ⟨ds, e4, e5⟩ := Option.bind_eq_some_iff.mp e3
    split at hf
    · rename_i hl
      cases hf
      obtain ⟨a, vs, rfl, h1, h2⟩ := rs2.lsq r2 e4
      have := h2.strs e5
      subst this
      exact ⟨_, a, ys, rfl, rfl, .inl h1, hl, ((q.step st1).step st2).now rs2 (.str _)⟩
    · cases hf
  · cases hf)
end Mir

set_option Elab.async false
set_option linter.all false
set_option maxRecDepth 100000
set_option autoImplicit false
set_option maxHeartbeats 1000000
/-! Mir8: the end: the law's own call. -/
namespace Mir
open PySem PySem.Spec PySem.Calls PyProof.Rows L2

theorem RS.none0 {K : PySem.W.Frag} {H : Hp} : RS K (fun _ => none) H [] :=
  ⟨fun _ _ e => (nomatch e), fun _ _ e => by simp at e, fun _ _ _ e => (nomatch e)⟩
section
variable {P : Program} {w : World} {K : PySem.W.Frag} {mg mb : Str → Option Value} {k : Nat} {fa a : Addr} {fd : FuncData} {x : Str} {F : FF} {s1 : Shared} {vs : List Value} {ns : List Int}
/-- what is known of the shared state ahead of the law's call -/
structure Ahead (K : PySem.W.Frag) (mg mb : Str → Option Value) (s1 : Shared) : Prop where
  kin : K.In s1.heap
  gns : s1.heap.Ns mainGlobals mg
  bns : s1.heap.Ns builtinsNs mb
  bbb : ∀ y : Str, y ≠ "__name__" → mb y = bootBuiltins y
  lim : s1.heap.NoLimit
  gen : s1.gens = #[]
def Ends1 (s1 : Shared) : Result → Shared → Prop := fun r s' => r = .ok (.ret (.bool true)) ∧ OldK s1.heap s'.heap ∧ s'.os = s1.os ∧ AllBare s'.gens
/-- at a heap that tracks the script alone, or nothing -/
theorem coreG (B : Ahead K mg mb s1) (H : Hp) (ha : ∃ o its n, s1.heap.get? a = some o ∧ o.data = .seq its n) (hO : Only H) (hok : HOk P w H s1.heap) (hA : ∀ b, H b ≠ none → b = a) (hK : H a ≠ none → K.lookup a = none) (hr : Room k callerA)
    (G : ∀ base : Heap, K.In base → base.Ns mainGlobals mg → FnG P w K mg base k fa fd [x] F) (hb : ∀ (s : Shared) (u : Value), BindsTo s fd ⟨[u], []⟩ [(x, u)])
    (hsp : spF K F [.ref a] H fun v _ => v = .bl true) : codeAny (model P w) callerA (.call (.ref fa) ⟨[.ref a], []⟩) (Ends1 s1) s1 := by
  have own : ∀ {b : Addr} {o : Obj} {es : Array DictEntry} {ep : Nat}, s1.heap.get? b = some o → o.data = .dict es ep → H b = none := by
    intro b o es ep e d
    refine Classical.byContradiction fun q => ?_
    cases hA b q
    obtain ⟨o2, its, n, e2, d2⟩ := ha
    rw [e] at e2
    cases e2
    rw [d] at d2
    cases d2
  have hid : ∀ {b : Addr} {m : Str → Option Value}, s1.heap.Ns b m → (hidT s1.heap H).Ns b m := by
    rintro b m ⟨o, es, ep, e, d, r⟩
    exact ⟨o, es, ep, hidT_get e (own e d), d, r⟩
  have kin2 : K.In (hidT s1.heap H) := by
    intro b o e
    refine hidT_get (B.kin b o e) (Classical.byContradiction fun q => ?_)
    cases hA b q
    rw [hK q] at e
    cases e
  obtain ⟨mc, l1, l2⟩ := B.lim
  have e0 : Env0 P w K mg (hidT s1.heap H) callerA [] s1 H :=
    ⟨rfl, ⟨kin2, hid B.gns, ⟨mb, hid B.bns, B.bbb⟩, mc, hid l1, l2⟩, fun _ _ e => of_hidT e, Nat.le_of_eq (hidT_size _ _), trivial, fun b hb2 => absurd (show b ∈ ([] : List Addr) from hb2) (by simp), hok, .of_eq B.gen⟩
  refine codeAny_mono ((G _ kin2 (hid B.gns)).run callerA [] s1 H ⟨[.ref a], []⟩ [.ref a] [.ref a] _ hr rfl e0 (hb s1 _) (.cons rfl .nil) hsp) fun r s' h => ?_
  rcases r with e | fl
  · exact absurd h id
  · cases fl with
    | ret u =>
      obtain ⟨v, H2, os, bare, un, ok2, rv, q⟩ := h
      cases (show v = .bl true from q)
      cases (show u = Value.bool true from rv)
      refine ⟨rfl, .of_keep fun b o e => ?_, os, bare⟩
      rcases hO b with z | ⟨ob, xs, z⟩
      · exact un.keep b o e z (fun z2 => absurd (show b ∈ ([] : List Addr) from z2) (by simp)) (by simp)
      · have y1 := (hok b _ z).1
        have y2 := (ok2 b _ (un.frzs b ob _ z)).1
        rw [e] at y1
        cases y1
        exact y2
    | next => exact absurd h id
    | brk => exact absurd h id
    | cont => exact absurd h id
theorem RDs.ints0 {β : Bt} {H : Hp} : ∀ ns : List Int, RDs K β H (ns.map D.int) (ns.map V.int)
  | [] => .nil
  | n :: ns => .cons (.int n) (RDs.ints0 ns)
theorem lawG (B : Ahead K mg mb s1) (ha : s1.heap.get? a = some { cls := .type "list", data := .seq vs.toArray }) (hi : IntsAre vs ns) (hl : ns.length ≤ sizeLine) (hr : Room k callerA)
    (G : ∀ base : Heap, K.In base → base.Ns mainGlobals mg → FnG P w K mg base k fa fd [x] F) (hb : ∀ (s : Shared) (u : Value), BindsTo s fd ⟨[u], []⟩ [(x, u)])
    (hF : ∃ S, F [.fro (ns.map .int)] [] = some (.bl true, S)) : codeAny (model P w) callerA (.call (.ref fa) ⟨[.ref a], []⟩) (Ends1 s1) s1 := by
  have rv := vals_ints hi
  have lv := hi.length
  obtain ⟨S, hF⟩ := hF
  have sp : ∀ H : Hp, RD K (fun _ => none) H (.fro (ns.map .int)) (.ref a) → spF K F [.ref a] H fun v _ => v = .bl true := fun H r =>
    ⟨_, [], _, _, S, RS.none0, .one r, hF, fun v β H1 _ _ r1 => by cases r1; rfl⟩
  have hs : ∃ o its n, s1.heap.get? a = some o ∧ o.data = .seq its n := ⟨_, _, _, ha, rfl⟩
  cases hk : K.lookup a with
  | some o =>
    have e := B.kin a o hk
    rw [ha] at e
    cases e
    refine coreG B (fun _ => none) hs (fun _ => .inl rfl) (fun b u z => (nomatch (show (none : Option HO) = some u from z))) (fun b z => absurd rfl z) (fun z => absurd rfl z) hr G hb (sp _ (.kfro ⟨_, vs.toArray, _, hk, rfl, rfl, rfl, ?_, ?_⟩ (RDs.ints0 ns)))
    · rw [List.size_toArray, lv]; exact hl
    · simpa using rv
  | none =>
    have dec : ∀ b : Addr, (if b = a then some (HO.frz { cls := .type "list", data := .seq vs.toArray } (.lst (ns.map V.int))) else none) ≠ none → b = a := fun b z => Classical.byContradiction fun q => z (if_neg q)
    refine coreG B (fun b => if b = a then some (.frz { cls := .type "list", data := .seq vs.toArray } (.lst (ns.map V.int))) else none) hs (fun b => ?_) (fun b u z => ?_) dec (fun _ => hk) hr G hb (sp _ (.fro (.inr ⟨_, if_pos rfl⟩) (fun _ => nofun) (RDs.ints0 ns)))
    · by_cases q : b = a
      · exact .inr ⟨_, _, if_pos q⟩
      · exact .inl (if_neg q)
    · cases dec b (by rw [show (if b = a then _ else none) = some u from z]; exact nofun)
      cases (if_pos rfl).symm.trans z
      exact ⟨ha, by rw [List.length_map]; exact hl, vs, _, rv, ha⟩
end
theorem walkG {l : PySem.W.OpenLaw} {n k : Nat} {q : Program} {loose : List Str} {XP : (Str → Option Value) → Heap → Prop} {YP : World → Heap → Prop} {d : DefRec} {K : Params → PySem.W.Frag} {x : Str}
    (hn : l.most = some n) (hn2 : n ≤ sizeLine) (hdf : d.params.defaults = []) (hr : Room k callerA) (hY : ∀ (w : World) (h : Heap), YP w h → (K w.params).In h)
    (hF : ∀ (w : World) (mg : Str → Option Value) (fa : Addr) (h : Heap), (K w.params).In h → h.Ns mainGlobals mg → mg d.name = some (.ref fa) →
      ∃ (fd : FuncData) (F : FF), (∀ (s : Shared) (u : Value), BindsTo s fd ⟨[u], []⟩ [(x, u)]) ∧ (∀ base : Heap, (K w.params).In base → base.Ns mainGlobals mg → FnG l.prog w (K w.params) mg base k fa fd [x] F) ∧
        ∀ ns : List Int, ns.length ≤ n → (∀ z ∈ ns, Builtin.Int.intBits z ≤ 1048576) → ∃ S, F [.fro (ns.map .int)] [] = some (.bl true, S)) :
    PySem.W.WalkO q loose XP YP l.row.toRowW d [] (fun f vs => PySem.call f vs) := by
  refine Att.attach_callB hn hdf fun w s0 s1 mg mb fa o pm cd doc a vs ns G Y ho hd hcd hmg hobj hints hlen hbits hg => ?_
  obtain ⟨fd, F, h1, h2, h3⟩ := hF w mg fa _ (hY w _ Y) G.T.g hmg
  exact lawG ⟨hY w _ Y, G.T.g, G.T.b, G.T.builtins, G.T.nolimit, hg⟩ hobj hints (Nat.le_trans hlen hn2) hr h2 h1 (h3 ns hlen hbits)
end Mir

set_option Elab.async false
set_option linter.all false
set_option maxRecDepth 100000
set_option autoImplicit false
set_option maxHeartbeats 1000000
/-! Mir9: more of the same: o[i] op= e, zip, {}, built-ins ready to be named, defs that hand back a place. -/
namespace Mir
open PySem L2

/-! ### o[i] op= e -/
def oIxN : F2 := fun x y S => match x, y with
  | .loc n, .int i => if 0 ≤ i then (match S[n]? with
    | some (.lst ds) => (ds[i.toNat]?).map fun d => (d, S)
    | _ => none) else none
  | _, _ => none
def rGetN : V → V → Hp → VK → Prop := fun o i H Q => ∃ p xs k z, o = .ref p ∧ i = .int k ∧ 0 ≤ k ∧ H p = some (.lst xs) ∧ xs[k.toNat]? = some z ∧ Q z H
theorem get_n {X : Cx} : PGet X rGetN := by
  intro pins s σ H o i ov iv Q I ro ri h
  obtain ⟨p, xs, k, z, rfl, rfl, h0, hp, hz, q⟩ := h
  cases ro
  obtain ⟨t, rfl⟩ := ri
  obtain ⟨its, r, pl, hl⟩ := I.list (.inl (.inl hp))
  obtain ⟨u, hu, ru⟩ := r.get hz
  have n := (List.getElem?_eq_some_iff.mp hz).1
  have l63 := line63
  exact wpAny_getItem_list pl.isList h0 (by have := r.length; omega) (by simpa using hu) ⟨z, H, I, ru, q⟩
def sAugN (fo fi : FE) (op : F2) (fe : FE) : FS := fun env S => bnd (fo env S) fun o S1 => bnd (fi env S1) fun i S2 => bnd (oIxN o i S2) fun x S3 => bnd (fe env S3) fun y S4 => bnd (op x y S4) fun z S5 => (ixSet S5 o i z).map fun S6 => (.nx env, S6)
theorem ds_augN {X : Cx} {pos tpos : Pos} {e o i : Expr} {fe fo fi : FE} {op2 : F2} {r : R2} {op : Operator} (hop : OpR X (inplaceOp op) r) (hr : Rd2 X.K r op2) (ho : DE X o fo) (hi : DE X i fi) (he : DE X e fe)
    (ha : ∀ ov iv new, augStore i ov iv new = (do holding [new, ov, iv] (setItem ov iv new); release [new, ov, iv] []; pure .next) := by intros; rfl) : DS X (.AugAssign (.Subscript o i tpos) op e pos) (sAugN fo fi op2 fe) := by
  refine ds_of (ps_augS goE goE get_n goE (fun pins s σ H x y v u Q I rx ry h => hop pins s σ H x y v u Q I rx ry h) set_list ha) ?_
  intro σ β H env S d S' N re rs hf q
  obtain ⟨x1, S1, e1, hf⟩ := bnd_inv hf
  obtain ⟨x2, S2, e2, hf⟩ := bnd_inv hf
  obtain ⟨x3, S3, e3, hf⟩ := bnd_inv hf
  obtain ⟨x4, S4, e4, hf⟩ := bnd_inv hf
  obtain ⟨x5, S5, e5, hf⟩ := bnd_inv hf
  obtain ⟨S6, e6, e7⟩ := Option.map_eq_some_iff.mp hf
  cases e7
  refine ho.run σ β H env S x1 S1 _ re rs e1 fun v1 β1 H1 st1 rs1 r1 => ?_
  refine hi.run σ β1 H1 env S1 x2 S2 _ (re.step st1) rs1 e2 fun v2 β2 H2 st2 rs2 r2 => ?_
  unfold oIxN at e3
  split at e3
  · split at e3
    · rename_i hk
      split at e3
      · rename_i ds hd
        obtain ⟨x3', e8, e9⟩ := Option.map_eq_some_iff.mp e3
        cases e9
        obtain ⟨a, u, g1, g2, g3⟩ := rs2.obj _ _ hd
        have r1' := RD.step st2 _ _ r1
        cases r2
        cases r1' with
        | loc hl =>
          rw [hl] at g1
          cases g1
          cases g3 with
          | lst g3 =>
            obtain ⟨w, hw, rw⟩ := g3.get e8
            refine ⟨_, _, _, w, rfl, rfl, hk, g2, hw, ?_⟩
            refine he.run σ β2 H2 env S2 x4 S4 _ ((re.step st1).step st2) rs2 e4 fun v4 β4 H4 st4 rs4 r4 => ?_
            refine hr β4 H4 S4 _ x4 w v4 x5 S5 _ rs4 (RD.step st4 _ _ rw) r4 e5 fun v5 β5 H5 st5 rs5 r5 => ?_
            have st := ((st1.trans st2).trans st4).trans st5
            exact rd_set rs5 (RD.step (st4.trans st5) _ _ (.loc hl)) (.int _) r5 e6 fun H6 st6 rs6 => q _ β5 H6 (st.trans st6) rs6 (re.step (st.trans st6))
      · cases e3
    · cases e3
  · cases e3
theorem rd_iadd {K : PySem.W.Frag} : Rd2 K (rI0 fun i j => .int (i + j)) (oI (fun _ _ => true) fun i j => .int (i + j)) := rd_I0 fun i j _ _ => .int (i + j)
theorem rd_isub {K : PySem.W.Frag} : Rd2 K (rI0 fun i j => .int (i - j)) (oI (fun _ _ => true) fun i j => .int (i - j)) := rd_I0 fun i j _ _ => .int (i - j)

/-! ### zip of two tuples, of two lists -/
def zipD : List D → List D → List D
  | x :: xs, y :: ys => .tup [x, y] :: zipD xs ys
  | _, _ => []
theorem zipD_get : ∀ {xs ys : List D} {i : Nat} {d : D}, (zipD xs ys)[i]? = some d → ∃ x y, xs[i]? = some x ∧ ys[i]? = some y ∧ d = .tup [x, y]
  | x :: xs, y :: ys, 0, d, h => by cases h; exact ⟨x, y, rfl, rfl, rfl⟩
  | x :: xs, y :: ys, i + 1, d, h => zipD_get (xs := xs) (ys := ys) (i := i) h
  | [], _, _, _, h => by simp [zipD] at h
  | _ :: _, [], _, _, h => by simp [zipD] at h
theorem zipD_len : ∀ {xs ys : List D}, xs.length ≤ (zipD xs ys).length ∨ ys.length ≤ (zipD xs ys).length
  | x :: xs, y :: ys => by
    rcases zipD_len (xs := xs) (ys := ys) with h | h
    · exact .inl (Nat.succ_le_succ h)
    · exact .inr (Nat.succ_le_succ h)
  | [], _ => .inl (Nat.zero_le _)
  | _ :: _, [] => .inr (Nat.zero_le _)
def fZip (g : FA) : FA := fun env S => bnd (g env S) fun ds S1 => match ds with
  | [x, y] => (match gTup x, gTup y, gList x, gList y with
    | some xs, some ys, _, _ => some (zipD xs ys, S1)
    | _, _, some xs, some ys => some (zipD xs ys, S1)
    | _, _, _, _ => none)
  | _ => none
theorem itOk_zip {K : PySem.W.Frag} {β : Bt} {H : Hp} {J : It} {R : Addr → List V → Hp → Prop} {a b : Addr} {xs ys : List D} (hJ : J = ⟨fun i H => ∃ (xs ys : List V) (x y : V), R a xs H ∧ R b ys H ∧ xs[i]? = some x ∧ ys[i]? = some y,
      fun i H v H' => ∃ T x y, v = .ref T ∧ H T = none ∧ H' = upd H T (.tup [x, y]) ∧ (∀ xs, R a xs H → xs[i]? = some x) ∧ ∀ ys, R b ys H → ys[i]? = some y, fun i H => ∃ xs ys : List V, R a xs H ∧ R b ys H ∧ (xs.length ≤ i ∨ ys.length ≤ i)⟩)
    (hx : ∀ β' H', Step β H β' H' → ∃ vs, R a vs H' ∧ RDs K β' H' xs vs) (hy : ∀ β' H', Step β H β' H' → ∃ vs, R b vs H' ∧ RDs K β' H' ys vs) : ItOk K β H J (zipD xs ys) := by
  subst hJ
  intro β' H' st
  obtain ⟨vs, a1, a2⟩ := hx β' H' st
  obtain ⟨us, b1, b2⟩ := hy β' H' st
  refine ⟨fun i d hd => ?_, vs, us, a1, b1, ?_⟩
  · obtain ⟨x, y, e1, e2, rfl⟩ := zipD_get hd
    obtain ⟨v, e3, r3⟩ := a2.get e1
    obtain ⟨u, e4, r4⟩ := b2.get e2
    refine ⟨⟨vs, us, v, u, a1, b1, e3, e4⟩, fun z H2 yl S rs => ?_⟩
    obtain ⟨T, x', y', rfl, hT, rfl, f1, f2⟩ := yl
    have q1 := f1 vs a1
    have q2 := f2 us b1
    rw [e3] at q1
    rw [e4] at q2
    cases q1
    cases q2
    exact ⟨.laid hT, rs.laid hT, RD.newT rs hT (.cons r3 (.cons r4 .nil))⟩
  · rw [← a2.length, ← b2.length]
    exact zipD_len
theorem di_zip {X : Cx} {e e2 : Expr} {p pos tpos : Pos} {elts : List Expr} {kk : Nat} {g : FA} (hm : X.mg "zip" = none) (ha : DA X [e, e2] g) (hg : Gl X "zip" := by rfl)
    (hs : starEach [e, e2] X.env = (false, eval e X.env) :: starEach [e2] X.env := by first | exact st_cons rfl | rfl) (hpl : (backTo pos (starEach [e2] X.env)).any (·.1) = false := by first | exact st_plain rfl | rfl) : DI X (.Tuple elts kk tpos) (.Call (.Name "zip" p) [e, e2] [] pos) (fZip g) :=
  ⟨_, RZ.pi_zipA hg hm goA hs hpl, by
    intro σ β H env S ds S' R re rs hf q
    obtain ⟨xs, S1, e1, hf⟩ := bnd_inv hf
    refine ha.run σ β H env S xs S1 _ re rs e1 fun vs β1 H1 st1 rs1 r1 => ?_
    split at hf
    · rename_i x y
      cases r1 with
      | cons r1 r2 =>
        cases r2 with
        | cons r2 r3 =>
          cases r3
          split at hf
          · rename_i as bs h1 h2
            cases hf
            obtain ⟨a, rfl, k1⟩ := gTup_ok r1 h1
            obtain ⟨b, rfl, k2⟩ := gTup_ok r2 h2
            obtain ⟨vs1, c1, _⟩ := k1 β1 H1 .refl
            obtain ⟨vs2, c2, _⟩ := k2 β1 H1 .refl
            exact ⟨a, b, vs1, vs2, rfl, .inr ⟨c1, c2, q _ β1 H1 st1 rs1 (itOk_zip (R := fun a xs H => SqT X.K H a xs) rfl k1 k2)⟩⟩
          · rename_i as bs h1 h2 _
            cases hf
            obtain ⟨a, rfl, k1⟩ := gList_ok r1 h1
            obtain ⟨b, rfl, k2⟩ := gList_ok r2 h2
            obtain ⟨vs1, c1, _⟩ := k1 β1 H1 .refl
            obtain ⟨vs2, c2, _⟩ := k2 β1 H1 .refl
            exact ⟨a, b, vs1, vs2, rfl, .inl ⟨c1, c2, q _ β1 H1 st1 rs1 (itOk_zip (R := fun a xs H => SqL X.K H a xs) rfl k1 k2)⟩⟩
          · cases hf
    · cases hf⟩

/-! ### {} -/
def fDic0 : FE := fun _ S => some (.dic [] [], S)
theorem de_dic0 {X : Cx} {pos : Pos} : DE X (.Dict [] [] pos) fDic0 := de_of pe_dnewK (by
  intro σ β H env S d S' Q re rs hf q
  cases hf
  intro p hp
  exact q _ β _ (.laid hp) (rs.laid hp) (RD.newD (kvs := []) rs hp .nil))

/-! ### a def that hands back a place -/
/-- what is done with what a def hands back -/
def Closer (c : Nat → D → Store → Option (D × Store)) : Prop := ∀ (K : PySem.W.Frag) (β0 : Bt) (H0 : Hp) (β : Bt) (H : Hp) (d : D) (v : V) (n : Nat) (S : Store) (d' : D) (S' : Store), Step β0 H0 β H → (∀ m a, β0 m = some a → m < n) → RS K β H S → RD K β H d v → c n d S = some (d', S') →
  ∃ β', Step β0 H0 β' H ∧ RS K β' H S' ∧ RD K β' H d' v
theorem closer_V : Closer closeV := fun K β0 H0 β H d v n S d' S' st hd rs r e => by
  obtain ⟨a, b⟩ := closeV_ok rs r e
  exact ⟨_, st.cut hd, a, b⟩
def closeP (n : Nat) (d : D) (S : Store) : Option (D × Store) :=
  match d with
  | .loc m => if n ≤ m then (match S[m]? with
    | some o => if (S.take n).all (O.blw n) && o.blw n && decide (n ≤ S.length) then some (.loc n, S.take n ++ [o]) else none
    | none => none) else none
  | _ => none
def bmv (β : Bt) (n m : Nat) : Bt := fun i => if i < n then β i else if i = n then β m else none
section
variable {K : PySem.W.Frag} {β : Bt} {H : Hp} {n m : Nat}
theorem Out.mv {a : Addr} (h : Out β a) : Out (bmv β n m) a := fun i e => by
  unfold bmv at e
  split at e
  · exact h i e
  · split at e
    · exact h m e
    · cases e
mutual
theorem RD.mv : ∀ (d : D) (v : V), RD K β H d v → d.blw n = true → RD K (bmv β n m) H d v
  | .non, _, h, _ => by cases h; exact .non
  | .bl _, _, h, _ => by cases h; exact .bl _
  | .int _, _, h, _ => by cases h; exact .int _
  | .str _, _, h, _ => by cases h; exact .str _
  | .tup ds, _, h, b => by
    have b' : D.blws n ds = true := by simpa only [D.blw] using b
    cases h with
    | tup h1 h2 h3 => exact .tup h1 h2.mv (RDs.mv ds _ h3 b')
    | ktup h1 h3 => exact .ktup h1 (RDs.mv ds _ h3 b')
  | .lst ds, _, h, b => by
    have b' : D.blws n ds = true := by simpa only [D.blw] using b
    cases h with
    | lst h1 h2 h3 => exact .lst h1 h2.mv (RDs.mv ds _ h3 b')
  | .fro ds, _, h, b => by
    have b' : D.blws n ds = true := by simpa only [D.blw] using b
    cases h with
    | fro h1 h2 h3 => exact .fro h1 h2.mv (RDs.mv ds _ h3 b')
    | kfro h1 h3 => exact .kfro h1 (RDs.mv ds _ h3 b')
  | .dic ks ds, _, h, b => by
    have b' : D.blws n ds = true := by simpa only [D.blw] using b
    cases h with
    | dic h1 h2 h4 h3 => exact .dic h1 h2.mv h4 (RDs.mv ds _ h3 b')
  | .loc k, _, h, b => by
    have b' : k < n := by simpa only [D.blw, decide_eq_true_eq] using b
    cases h with
    | loc h =>
      refine .loc ?_
      unfold bmv
      rw [if_pos b']
      exact h
  | .raw v, _, h, _ => by cases h; exact .raw v
theorem RDs.mv : ∀ (ds : List D) (vs : List V), RDs K β H ds vs → D.blws n ds = true → RDs K (bmv β n m) H ds vs
  | [], _, h, _ => by cases h; exact .nil
  | d :: ds, _, h, b => by
    have b' : d.blw n = true ∧ D.blws n ds = true := by simpa only [D.blws, Bool.and_eq_true] using b
    cases h with | cons h1 h2 => exact .cons (RD.mv d _ h1 b'.1) (RDs.mv ds _ h2 b'.2)
end
theorem RO.mv {o : O} {u : HO} (h : RO K β H o u) (b : o.blw n = true) : RO K (bmv β n m) H o u := by
  cases h with
  | lst h => exact .lst (RDs.mv _ _ h (by simpa only [O.blw] using b))
  | dic e h => exact .dic e (RDs.mv _ _ h (by simpa only [O.blw] using b))
  | ins e h => exact .ins e (RDs.mv _ _ h (by simpa only [O.blw] using b))
end
theorem closer_P : Closer closeP := fun K β0 H0 β H d v n S d' S' st hd rs r e => by
  unfold closeP at e
  split at e
  · rename_i m
    split at e
    · rename_i hm
      split at e
      · rename_i o ho
        split at e
        · rename_i hb
          cases e
          simp only [Bool.and_eq_true, decide_eq_true_eq] at hb
          obtain ⟨⟨hb1, hb2⟩, hb3⟩ := hb
          obtain ⟨a, u, h1, h2, h3⟩ := rs.obj m o ho
          have lt : (S.take n).length = n := by rw [List.length_take]; omega
          have at_n : bmv β n m n = some a := by
            unfold bmv
            rw [if_neg (Nat.lt_irrefl n), if_pos rfl]
            exact h1
          refine ⟨bmv β n m, ⟨st.keep, fun i b hi => ?_, fun i b hi => ?_, st.live⟩, ⟨fun i b hi => ?_, fun i x hx => ?_, fun i j b hi hj => ?_⟩, ?_⟩
          · unfold bmv
            rw [if_pos (hd i b hi)]
            exact st.ext i b hi
          · unfold bmv at hi
            split at hi
            · exact st.new i b hi
            · split at hi
              · rcases st.new m b hi with q | q
                · have := hd m b q
                  omega
                · exact .inr q
              · cases hi
          · rw [List.length_append, lt]
            show i < n + 1
            unfold bmv at hi
            split at hi
            · omega
            · split at hi
              · omega
              · cases hi
          · by_cases hin : i < n
            · rw [List.getElem?_append_left (by omega), List.getElem?_take_of_lt hin] at hx
              obtain ⟨b, w, g1, g2, g3⟩ := rs.obj i x hx
              refine ⟨b, w, ?_, g2, g3.mv (List.all_eq_true.mp hb1 x (List.mem_of_getElem? (by rw [List.getElem?_take_of_lt hin]; exact hx)))⟩
              unfold bmv
              rw [if_pos hin]
              exact g1
            · have e : i = n := by
                have := (List.getElem?_eq_some_iff.mp hx).1
                rw [List.length_append, lt] at this
                have t1 : ([o] : List O).length = 1 := rfl
                omega
              subst e
              rw [List.getElem?_append_right (by omega), lt] at hx
              simp at hx
              subst hx
              exact ⟨a, u, at_n, h2, h3.mv hb2⟩
          · unfold bmv at hi hj
            split at hi
            · split at hj
              · exact rs.inj i j b hi hj
              · split at hj
                · have := rs.inj i m b hi hj
                  omega
                · cases hj
            · split at hi
              · split at hj
                · have := rs.inj m j b hi hj
                  omega
                · split at hj
                  · omega
                  · cases hj
              · cases hi
          · cases r with
            | loc hl =>
              rw [h1] at hl
              cases hl
              exact .loc at_n
        · cases e
      · cases e
    · cases e
  · cases e
end Mir

set_option Elab.async false
set_option linter.all false
set_option maxRecDepth 100000
set_option autoImplicit false
set_option maxHeartbeats 1000000
/-! Mir10: a def's worth, with a closer; built-ins by name. -/
namespace Mir
open PySem PySem.P PySem.Spec PyProof.Rows L2

def fnC (c : Nat → D → Store → Option (D × Store)) (n m : Nat) (g : FS) : FF := fun ds S => if ds.length = m then (match g (ds.map some ++ List.replicate (n - m) none) S with
    | some (.rt d, S') => c S.length d S'
    | some (.nx _, S') => c S.length .non S'
    | _ => none)
  else none
section
variable {P : Program} {w : World} {K : PySem.W.Frag} {mg : Str → Option Value} {base : Heap}
theorem fnG_ofC {c : Nat → D → Store → Option (D × Store)} (hcl : Closer c) {x qual : Str} {st : Stmt} {f : Addr} {fd : FuncData} {N ps : List Str} {k n m : Nat} {g : FS} (F0 : Fun K x qual st f fd) (S0 : FnScope N ps (defScope st)) (hn : n = N.length) (hm : m = ps.length)
    (body : ∀ (cdv : Value) (A : Around) (out : List PySem.Env) (s : Shared) (H : Hp), Up (cxOf CX0 P w K mg base N qual (defScope st) f cdv A out s H E0).nox k → DSs (cxOf CX0 P w K mg base N qual (defScope st) f cdv A out s H E0).nox (defBody st) g) : FnG P w K mg base (k + 1) f fd ps (fnC c n m g) := by
  obtain ⟨oc, od, kV, doc, pm, an, cdv, ct, osl, rfl, lk, hcd⟩ := F0.ex
  refine ⟨fun ds S r e => ?_, fun A out s H args us vs Q hr hq e0 hb r hsp => ?_⟩
  · unfold fnC at e
    split at e
    · rename_i h
      exact h.trans hm
    · cases e
  · obtain ⟨β, S, ds, d, S', rs, rd, hf, q⟩ := hsp
    have hlen : ds.length = m := Classical.byContradiction fun z => by
      unfold fnC at hf
      rw [if_neg z] at hf
      cases hf
    unfold fnC at hf
    rw [if_pos hlen] at hf
    have hl : vs.length = ps.length := by rw [← rd.length, hlen, hm]
    have KX : K.In s.heap := e0.mod.kin.keeps fun b o e => (e0.bs b o e).1
    have lim : s.heap.NoLimit := e0.mod.nolimit.keeps fun b o e => (e0.bs b o e).1
    have hkind : ∀ y ∈ ps.zip us, (defScope st).names.lookup y.1 = some .local ∨ ((defScope st).names.lookup y.1 = some .cell ∧ ((cellsFrom (s.heap.objs.size + 1) (defScope st).names []).lookup y.1).isSome = true) := by
      rintro ⟨n, v⟩ hy
      exact (S0.par n (List.of_mem_zip hy).1).imp id fun c => ⟨c, PySem.W.cellsFrom_some _ _ _ (.inl c)⟩
    refine codeAny_call_function hr.depth (KX _ _ lk) rfl S0.co S0.gen rfl (PySem.W.codeRec_of KX hcd) (hb _ _ _ _ ?_)
    refine wpAny_newFunctionEnv_cells S0.kind hkind fun env he s1 x => ?_
    subst he
    refine ⟨lim.keeps x.toInCall.keep, codeAny_func ?_⟩
    have I := (inv_start (CX := CX0) (E := E0) S0 hr.hd e0 hl r x : Inv (cxOf CX0 P w K mg base N qual (defScope st) f cdv A out s H E0) [] (L2.start N vs) H s1)
    have B := body cdv A out s H ⟨hr.deeper _, hq⟩
    have fin : ∀ {s' : Shared} {σ' : L2.St} {H' : Hp} {v : V} {u : Value}, Inv (cxOf CX0 P w K mg base N qual (defScope st) f cdv A out s H E0) [] σ' H' s' → RelV v u → Q v H' → CE out P w H s Q u s' :=
      fun {s' σ' H' v u} J rv q => ⟨v, H', J.os, J.bare, J.base, J.hok, rv, q⟩
    have back : ∀ (r1 : Rt) (S1 : Store) (d1 : D), g (ds.map some ++ List.replicate (n - m) none) S = some (r1, S1) → (r1 = .rt d1 ∨ ∃ e1, r1 = .nx e1 ∧ d1 = .non) → c S.length d1 S1 = some (d, S') → PostS K β H S1 r1 { nx := fun _ H' => Q .non H', rt := Q } := by
      intro r1 S1 d1 _ h hc
      rcases h with rfl | ⟨e1, rfl, rfl⟩
      · intro v β1 H1 st1 rs1 rd1
        obtain ⟨β2, a1, a2, a3⟩ := hcl K β H β1 H1 d1 v S.length S1 d S' st1 rs.dom rs1 rd1 hc
        exact q v β2 H1 a1 a2 a3
      · intro σ1 β1 H1 st1 rs1 re1
        obtain ⟨β2, a1, a2, a3⟩ := hcl K β H β1 H1 .non .non S.length S1 d S' st1 rs.dom rs1 .non hc
        exact q .non β2 H1 a1 a2 a3
    obtain ⟨r1, S1, hg, hps⟩ : ∃ (r1 : Rt) (S1 : Store), g (ds.map some ++ List.replicate (n - m) none) S = some (r1, S1) ∧ PostS K β H S1 r1 { nx := fun _ H' => Q .non H', rt := Q } := by
      split at hf
      · rename_i d1 S1 hg
        exact ⟨_, _, hg, back _ _ d1 hg (.inl rfl) hf⟩
      · rename_i e1 S1 hg
        exact ⟨_, _, hg, back _ _ .non hg (.inr ⟨e1, rfl, rfl⟩) hf⟩
      · cases hf
    refine wpAny_mono (goSs.nox.run [] s1 (L2.start N vs) H _ I (B.run (L2.start N vs) β H _ S r1 S1 _ (RE.start rd hn hlen) rs hg hps)) (fun fl s' hs => ?_) fun e s' hs => hs
    cases fl with
    | ret u =>
      obtain ⟨v, σ', H', J, rv, q⟩ := hs
      exact fin J rv q
    | next =>
      obtain ⟨σ', H', J, q⟩ := hs
      exact fin (v := V.non) (u := Value.none) J rfl q
    | brk =>
      obtain ⟨_, _, _, z⟩ := hs
      exact False.elim z
    | cont =>
      obtain ⟨_, _, _, z⟩ := hs
      exact False.elim z
end

/-! ### built-ins by name -/
section
variable {X : Cx} {k : Nat} {p pos : Pos} {e : Expr} {es : List Expr} {g : FA}
theorem de_abs (hm : X.mg "abs" = none) (ha : DA X (e :: es) g) (hg : Gl X "abs" := by rfl) (he : starEach (e :: es) X.env = (false, eval e X.env) :: starEach es X.env := by first | exact st_cons rfl | rfl) (hpl : (backTo pos (starEach es X.env)).any (·.1) = false := by first | exact st_plain rfl | rfl) : DE X (.Call (.Name "abs" p) (e :: es) [] pos) (fCall bAbs g) := de_callB call_abs rn_abs hm boot_abs ha hg (by decide) (by decide) he hpl
theorem de_intC (hm : X.mg "int" = none) (ha : DA X (e :: es) g) (hg : Gl X "int" := by rfl) (he : starEach (e :: es) X.env = (false, eval e X.env) :: starEach es X.env := by first | exact st_cons rfl | rfl) (hpl : (backTo pos (starEach es X.env)).any (·.1) = false := by first | exact st_plain rfl | rfl) : DE X (.Call (.Name "int" p) (e :: es) [] pos) (fCall bInt g) := de_callTy call_int1 rn_int hm boot_int ha hg (by decide) (by decide) he hpl
theorem de_len (hm : X.mg "len" = none) (ha : DA X (e :: es) g) (hg : Gl X "len" := by rfl) (he : starEach (e :: es) X.env = (false, eval e X.env) :: starEach es X.env := by first | exact st_cons rfl | rfl) (hpl : (backTo pos (starEach es X.env)).any (·.1) = false := by first | exact st_plain rfl | rfl) : DE X (.Call (.Name "len" p) (e :: es) [] pos) (fCall bLen g) := de_callB call_len rn_len hm boot_len ha hg (by decide) (by decide) he hpl
theorem de_all (hm : X.mg "all" = none) (ha : DA X (e :: es) g) (hg : Gl X "all" := by rfl) (hc : X.calm = true := by rfl) (he : starEach (e :: es) X.env = (false, eval e X.env) :: starEach es X.env := by first | exact st_cons rfl | rfl) (hpl : (backTo pos (starEach es X.env)).any (·.1) = false := by first | exact st_plain rfl | rfl) : DE X (.Call (.Name "all" p) (e :: es) [] pos) (fCall bAll g) := de_callB (cr_all hc) rn_all hm boot_all ha hg (by decide) (by decide) he hpl
theorem de_any (hm : X.mg "any" = none) (ha : DA X (e :: es) g) (hg : Gl X "any" := by rfl) (hc : X.calm = true := by rfl) (he : starEach (e :: es) X.env = (false, eval e X.env) :: starEach es X.env := by first | exact st_cons rfl | rfl) (hpl : (backTo pos (starEach es X.env)).any (·.1) = false := by first | exact st_plain rfl | rfl) : DE X (.Call (.Name "any" p) (e :: es) [] pos) (fCall bAny g) := de_callB (cr_any hc) rn_any hm boot_any ha hg (by decide) (by decide) he hpl
theorem de_tuple (hm : X.mg "tuple" = none) (ha : DA X (e :: es) g) (hg : Gl X "tuple" := by rfl) (he : starEach (e :: es) X.env = (false, eval e X.env) :: starEach es X.env := by first | exact st_cons rfl | rfl) (hpl : (backTo pos (starEach es X.env)).any (·.1) = false := by first | exact st_plain rfl | rfl) : DE X (.Call (.Name "tuple" p) (e :: es) [] pos) (fCall bTuple g) := de_callTy call_tuple_of rn_tuple hm boot_tuple ha hg (by decide) (by decide) he hpl
theorem de_list (hm : X.mg "list" = none) (ha : DA X (e :: es) g) (hg : Gl X "list" := by rfl) (he : starEach (e :: es) X.env = (false, eval e X.env) :: starEach es X.env := by first | exact st_cons rfl | rfl) (hpl : (backTo pos (starEach es X.env)).any (·.1) = false := by first | exact st_plain rfl | rfl) : DE X (.Call (.Name "list" p) (e :: es) [] pos) (fCall bList g) := de_callTy call_list_of rn_list hm boot_list ha hg (by decide) (by decide) he hpl
theorem de_listM (hm : X.mg "list" = none) (ha : DA X (e :: es) g) (hg : Gl X "list" := by rfl) (he : starEach (e :: es) X.env = (false, eval e X.env) :: starEach es X.env := by first | exact st_cons rfl | rfl) (hpl : (backTo pos (starEach es X.env)).any (·.1) = false := by first | exact st_plain rfl | rfl) : DE X (.Call (.Name "list" p) (e :: es) [] pos) (fCall bListM g) := de_callTy call_list_of rn_listM hm boot_list ha hg (by decide) (by decide) he hpl
theorem de_sorted (hm : X.mg "sorted" = none) (ha : DA X (e :: es) g) (hg : Gl X "sorted" := by rfl) (hc : X.calm = true := by rfl) (he : starEach (e :: es) X.env = (false, eval e X.env) :: starEach es X.env := by first | exact st_cons rfl | rfl) (hpl : (backTo pos (starEach es X.env)).any (·.1) = false := by first | exact st_plain rfl | rfl) : DE X (.Call (.Name "sorted" p) (e :: es) [] pos) (fCall bSorted g) := de_callB (cr_sorted.or cr_sortedS) rn_sorted hm boot_sorted ha hg (by decide) (by decide) he hpl
theorem de_isi (hm : X.mg "isinstance" = none) (ha : DA X (e :: es) g) (hg : Gl X "isinstance" := by rfl) (he : starEach (e :: es) X.env = (false, eval e X.env) :: starEach es X.env := by first | exact st_cons rfl | rfl) (hpl : (backTo pos (starEach es X.env)).any (·.1) = false := by first | exact st_plain rfl | rfl) : DE X (.Call (.Name "isinstance" p) (e :: es) [] pos) (fCall bIsi g) := de_callB call_isi rn_isi hm boot_isinstance ha hg (by decide) (by decide) he hpl
theorem de_repr (hu : Up X k) (hm : X.mg "repr" = none) (ha : DA X (e :: es) g) (hg : Gl X "repr" := by rfl) (he : starEach (e :: es) X.env = (false, eval e X.env) :: starEach es X.env := by first | exact st_cons rfl | rfl) (hpl : (backTo pos (starEach es X.env)).any (·.1) = false := by first | exact st_plain rfl | rfl) : DE X (.Call (.Name "repr" p) (e :: es) [] pos) (fCall bRepr g) := de_callB (call_repr hu) rn_repr hm boot_repr ha hg (by decide) (by decide) he hpl
end
end Mir

set_option Elab.async false
set_option linter.all false
set_option maxRecDepth 100000
set_option autoImplicit false
set_option maxHeartbeats 1000000
/-! Mir11: a walk over whatever sequence; defs as facts; constants of the module. -/
namespace Mir
open PySem PySem.P PySem.Spec PyProof.Rows L2

def gSeq : D → Option (List D)
  | .lst ds => some ds
  | .fro ds => some ds
  | .tup ds => some ds
  | .str z => some (z.cps.toList.map fun c => .str ⟨#[c]⟩)
  | _ => none
theorem piOr {X : Cx} {tg l : Expr} {w1 w2 : TI} (h1 : PI X tg l w1) (h2 : PI X tg l w2) : PI X tg l fun σ H R => w1 σ H R ∨ w2 σ H R :=
  ⟨fun pins s σ H R I h => h.elim (h1.run pins s σ H R I) (h2.run pins s σ H R I)⟩
theorem di_seq {X : Cx} {tg l : Expr} {f : FE} (h : DE X l f) : DI X tg l (fIt gSeq f) := by
  obtain ⟨w1, p1, r1⟩ := di_list (tg := tg) h
  obtain ⟨w2, p2, r2⟩ := di_tup (tg := tg) h
  obtain ⟨w3, p3, r3⟩ := di_str (tg := tg) h
  refine ⟨_, piOr p1 (piOr p2 p3), ?_⟩
  intro σ β H env S ds S' R re rs hf q
  obtain ⟨d, S1, e1, hf⟩ := bnd_inv hf
  have sub : ∀ g : D → Option (List D), g d = gSeq d → fIt g f env S = some (ds, S') := fun g hg => by
    unfold fIt
    rw [e1]
    show (g d).map _ = _
    rw [hg]
    exact hf
  cases d with
  | lst xs => exact .inl (r1 σ β H env S ds S' R re rs (sub gList rfl) q)
  | fro xs => exact .inl (r1 σ β H env S ds S' R re rs (sub gList rfl) q)
  | tup xs => exact .inr (.inl (r2 σ β H env S ds S' R re rs (sub gTup rfl) q))
  | str z => exact .inr (.inr (r3 σ β H env S ds S' R re rs (sub gStr rfl) q))
  | _ => cases hf
section
variable {P : Program} {w : World} {K : PySem.W.Frag} {mg : Str → Option Value} {base : Heap} {k : Nat} {x qual : Str} {st : Stmt} {f : Addr} {fd : FuncData} {ps : List Str} {F : FF}
theorem def_of (F0 : Fun K x qual st f fd) (hm : mg x = some (.ref f)) (G : FnG P w K mg base k f fd ps F) (hb : Binds K fd ps []) : Def P w K mg base k x f F := ⟨⟨fd, ps, G, F0.kp, hb⟩, hm⟩
theorem def_tab {y : Str} {a : Addr} (D0 : Def P w K mg base k y a F) : ∃ (fd : FuncData) (ps : List Str), FnG P w K mg base k a fd ps F ∧ PySem.W.keepIn K (.ref a) = true ∧ Binds K fd ps [] := D0.ex
end
/-- the defs that may stand in a name: addresses and worths -/
def tabL : List (Addr × FF) → Addr → Option FF
  | [], _ => none
  | (b, F) :: r, a => if a = b then some F else tabL r a
theorem tabL_ok {C : Addr → FF → Prop} : ∀ {l : List (Addr × FF)}, (∀ y ∈ l, C y.1 y.2) → ∀ a F, tabL l a = some F → C a F
  | [], _, _, _, e => by cases e
  | (b, G) :: r, h, a, F, e => by
    unfold tabL at e
    split at e
    · rename_i hab
      subst hab
      cases e
      exact h _ (List.mem_cons_self)
    · exact tabL_ok (fun y hy => h y (List.mem_cons_of_mem _ hy)) a F e
section
variable {X : Cx} {pos : Pos}
theorem de_gint {x : Str} {i : Int} (hm : ∃ t, X.mg x = some (.int i t)) (hg : Gl X x := by rfl) (hd : (x == ("__debug__" : Str)) = false := by decide) : DE X (.Name x pos) (fC (.int i)) := by
  obtain ⟨t, h⟩ := hm
  exact de_glob (v := .int i) h ⟨t, rfl⟩ (fun _ _ => .int i) hg hd
theorem de_gstr {x y : Str} (hm : ∃ t, X.mg x = some (.str y t)) (hg : Gl X x := by rfl) (hd : (x == ("__debug__" : Str)) = false := by decide) : DE X (.Name x pos) (fC (.str y)) := by
  obtain ⟨t, h⟩ := hm
  exact de_glob (v := .str y) h ⟨t, rfl⟩ (fun _ _ => .str y) hg hd
theorem de_gfn {x : Str} {a : Addr} (hm : X.mg x = some (.ref a)) (hg : Gl X x := by rfl) (hd : (x == ("__debug__" : Str)) = false := by decide) : DE X (.Name x pos) (fC (.raw (.ref a))) := de_glob (v := .ref a) hm rfl (fun _ _ => .raw _) hg hd
theorem de_gty {x : Str} {T : String} (hm : X.mg x = none) (hv : bootBuiltins x = some (.type T)) (hg : Gl X x := by rfl) (hn : x ≠ "__name__" := by decide) (hd : (x == ("__debug__" : Str)) = false := by decide) : DE X (.Name x pos) (fC (.raw (.ty T))) := de_bltn (v := .ty T) hm hv rfl hg hn hd
/-- a tuple of texts that the top has written -/
def TupS (K : PySem.W.Frag) (mg : Str → Option Value) (x : Str) (ys : List Str) : Prop := ∃ a, mg x = some (.ref a) ∧ KT K a (ys.map V.str)
theorem tupS_of {K : PySem.W.Frag} {mg : Str → Option Value} {x : Str} {ys : List Str} {a : Addr} {its : List Value} {n : Nat} {od : Option Addr} {sl : Array (Option Value)} (hm : mg x = some (.ref a)) (hl : K.lookup a = some ⟨.type "tuple", od, .seq its.toArray n, sl⟩)
    (hz : its.length ≤ sizeLine := by decide) (hv : PyProof.Rows.StrsAre its ys) : TupS K mg x ys := ⟨a, hm, _, _, _, hl, rfl, rfl, by simpa using hz, by
  simp only [List.toList_toArray]
  clear hl hz
  induction hv with
  | nil => exact .nil
  | cons y t h ih => exact .cons ⟨t, rfl⟩ ih⟩
theorem strsAre_len {vs : List Value} {ys : List Str} (h : PyProof.Rows.StrsAre vs ys) : vs.length = ys.length := by
  induction h with
  | nil => rfl
  | cons y t h ih => simp [ih]
theorem rds_strs {K : PySem.W.Frag} {β : Bt} {H : Hp} : ∀ ys : List Str, RDs K β H (ys.map D.str) (ys.map V.str)
  | [] => .nil
  | y :: ys => .cons (.str y) (rds_strs ys)
theorem de_gtup {x : Str} {ys : List Str} (hm : TupS X.K X.mg x ys) (hg : Gl X x := by rfl) (hd : (x == ("__debug__" : Str)) = false := by decide) : DE X (.Name x pos) (fC (.tup (ys.map .str))) := by
  obtain ⟨a, h1, h2⟩ := hm
  exact de_glob (v := .ref a) h1 rfl (fun _ _ => .ktup h2 (rds_strs ys)) hg hd
end
end Mir

set_option Elab.async false
set_option linter.all false
set_option maxRecDepth 100000
set_option autoImplicit false
set_option maxHeartbeats 1000000
namespace Mir
open PySem PySem.P PySem.Spec PyProof.Rows L2
/-- lists of unlike lengths -/
def rEqLen (K : PySem.W.Frag) : R2 := fun x y H Q => ∃ a b xs ys, x = .ref a ∧ y = .ref b ∧ SqL K H a xs ∧ SqL K H b ys ∧ xs.length ≠ ys.length ∧ Q (.bl false) H
theorem op_eqLen {X : Cx} (hu : X.A.units + 64 < cLine) : OpR X (compareOp .Eq) (rEqLen X.K) := by
  intro pins s σ H x y v u Q I rx ry h
  obtain ⟨a, b, xs, ys, rfl, rfl, h1, h2, hne, q⟩ := h
  cases rx
  cases ry
  obtain ⟨is, r1, p1, _⟩ := I.list h1
  obtain ⟨js, r2, p2, _⟩ := I.list h2
  refine SeqAt.RcAt.lists_lengths p1.isList p2.isList ?_ (by omega) X.prog X.w _ _ ⟨.bl false, H, I, rfl, q⟩
  have e1 := r1.length
  have e2 := r2.length
  simp only [List.size_toArray, bne_iff_ne, ne_eq]
  omega
def oEqLen : F2 := fun x y S => match lsOf S x, lsOf S y with
  | some xs, some ys => if xs.length = ys.length then none else some (.bl false, S)
  | _, _ => none
def oEqX : F2 := fun x y S => (oEq x y S).or (oEqLen x y S)
theorem op_eqX {X : Cx} (hu : X.A.units + 64 < cLine) : OpR X (compareOp .Eq) (fun x y H Q => rEqD X.K x y H Q ∨ rEqLen X.K x y H Q) := (op_eqD hu).or (op_eqLen hu)
theorem rd_eqX {K : PySem.W.Frag} : Rd2 K (fun x y H Q => rEqD K x y H Q ∨ rEqLen K x y H Q) oEqX := Rd2.or rd_eq (by
  intro β H S x y v u d S' Q rs r1 r2 hf q
  unfold oEqLen at hf
  split at hf
  · rename_i xs ys e1 e2
    split at hf
    · cases hf
    · rename_i hne
      cases hf
      obtain ⟨a, vs, rfl, h1, h2⟩ := rs.lsq r1 e1
      obtain ⟨b, us, rfl, h3, h4⟩ := rs.lsq r2 e2
      exact ⟨a, b, vs, us, rfl, rfl, h1, h3, by rw [← h2.length, ← h4.length]; exact hne, q.now rs (.bl _)⟩
  · cases hf)
def rNeLen (K : PySem.W.Frag) : R2 := fun x y H Q => ∃ a b xs ys, x = .ref a ∧ y = .ref b ∧ SqL K H a xs ∧ SqL K H b ys ∧ xs.length ≠ ys.length ∧ Q (.bl true) H
theorem op_neLen {X : Cx} (hu : X.A.units + 64 < cLine) : OpR X (compareOp .NotEq) (rNeLen X.K) := by
  intro pins s σ H x y v u Q I rx ry h
  obtain ⟨a, b, xs, ys, rfl, rfl, h1, h2, hne, q⟩ := h
  cases rx
  cases ry
  obtain ⟨is, r1, p1, _⟩ := I.list h1
  obtain ⟨js, r2, p2, _⟩ := I.list h2
  refine SeqAt.RcNeAt.lists_lengths p1.isList p2.isList ?_ (by omega) X.prog X.w _ _ ⟨.bl true, H, I, rfl, q⟩
  have e1 := r1.length
  have e2 := r2.length
  simp only [List.size_toArray, bne_iff_ne, ne_eq]
  omega
def oNeLen : F2 := fun x y S => match lsOf S x, lsOf S y with
  | some xs, some ys => if xs.length = ys.length then none else some (.bl true, S)
  | _, _ => none
def oNeX : F2 := fun x y S => (oNe x y S).or (oNeLen x y S)
theorem op_neX {X : Cx} (hu : X.A.units + 64 < cLine) : OpR X (compareOp .NotEq) (fun x y H Q => rNeD X.K x y H Q ∨ rNeLen X.K x y H Q) := (op_neD hu).or (op_neLen hu)
theorem rd_neX {K : PySem.W.Frag} : Rd2 K (fun x y H Q => rNeD K x y H Q ∨ rNeLen K x y H Q) oNeX := Rd2.or rd_ne (by
  intro β H S x y v u d S' Q rs r1 r2 hf q
  unfold oNeLen at hf
  split at hf
  · rename_i xs ys e1 e2
    split at hf
    · cases hf
    · rename_i hne
      cases hf
      obtain ⟨a, vs, rfl, h1, h2⟩ := rs.lsq r1 e1
      obtain ⟨b, us, rfl, h3, h4⟩ := rs.lsq r2 e2
      exact ⟨a, b, vs, us, rfl, rfl, h1, h3, by rw [← h2.length, ← h4.length]; exact hne, q.now rs (.bl _)⟩
  · cases hf)
theorem oEqX_nil {S : Store} : ∀ xs : List D, oEqX (.lst xs) (.lst []) S = some (.bl xs.isEmpty, S)
  | [] => rfl
  | x :: xs => by
    unfold oEqX
    have h2 : oEqLen (.lst (x :: xs)) (.lst []) S = some (.bl false, S) := rfl
    have h1 : oEq (.lst (x :: xs)) (.lst []) S = none ∨ oEq (.lst (x :: xs)) (.lst []) S = some (.bl false, S) := by
      unfold oEq oEqN
      simp only [rdS, D.py, D.pys]
      cases D.py x with
      | none => exact .inl rfl
      | some p =>
        cases D.pys xs with
        | none => exact .inl rfl
        | some ps =>
          simp only [Option.bind_some, Option.map_some]
          split
          · exact .inr rfl
          · exact .inl rfl
    rcases h1 with h1 | h1 <;> rw [h1, h2] <;> rfl
theorem oNeX_nil {S : Store} : ∀ xs : List D, oNeX (.lst xs) (.lst []) S = some (.bl (!xs.isEmpty), S)
  | [] => rfl
  | x :: xs => by
    unfold oNeX
    have h2 : oNeLen (.lst (x :: xs)) (.lst []) S = some (.bl true, S) := rfl
    have h1 : oNe (.lst (x :: xs)) (.lst []) S = none ∨ oNe (.lst (x :: xs)) (.lst []) S = some (.bl true, S) := by
      unfold oNe oEqN
      simp only [rdS, D.py, D.pys]
      cases D.py x with
      | none => exact .inl rfl
      | some p =>
        cases D.pys xs with
        | none => exact .inl rfl
        | some ps =>
          simp only [Option.bind_some, Option.map_some]
          split
          · exact .inr rfl
          · exact .inl rfl
    rcases h1 with h1 | h1 <;> rw [h1, h2] <;> rfl
/-! ### len(set(tuple of texts)) -/
def stepS (acc : List Str) (x : Str) : List Str := if acc.any (· == x) then acc else acc ++ [x]
def dedupS (xs : List Str) : List Str := xs.foldl stepS []
theorem dedup_snoc (xs : List Str) (x : Str) : dedupS (xs ++ [x]) = stepS (dedupS xs) x := by
  unfold dedupS
  rw [List.foldl_append]
  rfl
theorem stepS_any (acc : List Str) (v k : Str) : (stepS acc v).any (· == k) = (acc.any (· == k) || decide (k = v)) := by
  unfold stepS
  by_cases hv : acc.any (· == v) = true
  · rw [if_pos hv]
    by_cases e : k = v
    · subst e
      rw [hv]
      rfl
    · simp [e]
  · rw [if_neg hv, List.any_append]
    by_cases e : k = v
    · subst e
      simp
    · have e2 : (v == k) = false := beq_eq_false_iff_ne.mpr fun z => e z.symm
      simp [e2, e]
theorem stepS_len (acc : List Str) (v : Str) : (stepS acc v).length = if acc.any (· == v) then acc.length else acc.length + 1 := by
  unfold stepS
  split
  · rfl
  · rw [List.length_append]
    rfl
theorem dedup_le : ∀ (xs acc : List Str), (xs.foldl stepS acc).length ≤ acc.length + xs.length
  | [], acc => Nat.le_refl _
  | x :: xs, acc => by
    have ih := dedup_le xs (stepS acc x)
    have h := stepS_len acc x
    rw [List.length_cons]
    show (xs.foldl stepS (stepS acc x)).length ≤ _
    split at h <;> omega
section
variable {P : Program} {w : World} {A : Around}
abbrev TxtSet (P : Program) (w : World) (h : Heap) (a : Addr) (l : List Str) : Prop := h.SetOf (PySem.strKind P w) a (fun y => l.any (· == y)) l.length
theorem TxtSet.next {h : Heap} {a : Addr} {l : List Str} {x : Str} (q : h.SetOf (PySem.strKind P w) a (fun y => l.any (· == y) || decide (y = x)) (if l.any (· == x) then l.length else l.length + 1)) : TxtSet P w h a (stepS l x) :=
  SetOf_congr q (fun y => (stepS_any l x y).symm) (stepS_len l x).symm
theorem TxtSet.keep {h h' : Heap} {a : Addr} {l : List Str} (q : TxtSet P w h a l) (k : ∀ o, h.get? a = some o → h'.get? a = some o) : TxtSet P w h' a l := by
  obtain ⟨ob, es, ep, tb, e1, e2⟩ := q
  exact ⟨ob, es, ep, tb, k ob e1, e2⟩
/-- set.update's own loop over texts -/
theorem upd_texts {R : Result → Shared → Prop} {it : Addr} {ft wt : List Addr} {Gg : Array GenState → Array GenState → Prop} {m : Nat} {Pv : Nat → Value → Prop} {Stt : Nat → Shared → Prop} (Wk : WalksS P w A.in1 it ft wt Gg m Pv Stt) (D : Addr) (hD : D ∉ ft) (xs : List Str) (hm : xs.length = m) (hl : m ≤ 4000)
    (hv : ∀ i v, Pv i v → ∃ x t, xs[i]? = some x ∧ v = .str x t) : ∀ (j i : Nat) (s : Shared), m - i = j → i ≤ m → Stt i s → TxtSet P w s.heap D (dedupS (xs.take i)) →
      (∀ s', Moved (D :: wt) Gg s s' → TxtSet P w s'.heap D (dedupS xs) → R (.ok (.ret .none)) s') → codeAny (model P w) A (.builtin "set.update.loop" ⟨[.ref D, .ref it], []⟩) R s := by
  have hDw : D ∉ wt := fun z => hD (Wk.sub _ z)
  have more : ∀ b ∈ wt, b ∈ D :: wt := fun b z => List.mem_cons_of_mem _ z
  intro j
  induction j with
  | zero =>
    intro i s hj hi hst hs hR
    cases (show i = m by omega)
    refine codeAny_builtin PyProof.Rows.F.entry_set_update_loop ?_
    rw [Around.under_plainId PyProof.Rows.F.plain_set_update_loop _]
    show wpAny (model P w) A.in1 (pyNext (.ref it) >>= _) _ _ s
    refine wpAny_bind (Wk.done s _ _ hst fun s2 mv => ?_)
    show wpAny (model P w) A.in1 (ret Value.none) _ _ s2
    rw [List.take_of_length_le (by omega)] at hs
    exact wpAny_pure (hR s2 (mv.mono more) (hs.keep fun o e => mv.heap D o hDw e))
  | succ j ih =>
    intro i s hj hi hst hs hR
    have lt : i < m := by omega
    refine codeAny_builtin PyProof.Rows.F.entry_set_update_loop ?_
    rw [Around.under_plainId PyProof.Rows.F.plain_set_update_loop _]
    show wpAny (model P w) A.in1 (pyNext (.ref it) >>= _) _ _ s
    refine wpAny_bind (Wk.item i s _ _ lt hst fun v s2 pv st2 mv => ?_)
    obtain ⟨x, t, hx, rfl⟩ := hv i v pv
    have hs2 : TxtSet P w s2.heap D (dedupS (xs.take i)) := hs.keep fun o e => mv.heap D o hDw e
    have room : (dedupS (xs.take i)).length + 1 < scanBound := by
      have h1 : (dedupS (xs.take i)).length ≤ 0 + (xs.take i).length := dedup_le (xs.take i) []
      rw [List.length_take] at h1
      unfold scanBound
      omega
    show wpAny (model P w) A.in1 (holding [Value.str x t] (setAdd D (.str x t)) >>= _) _ _ s2
    refine wpAny_bind (wpAny_holding ?_)
    unfold setAdd
    refine wpAny_holding (wpAny_bind ((PySem.strKind P w).pyHash (k := x) (strKind_is _ _ _ _) ?_))
    refine wpAny_setAddHashed_of (knd := PySem.strKind P w) (s := { s2 with toks := s2.toks + 1 }) (strKind_is _ _ _ _) rfl hs2 room fun h3 only hs3 => ?_
    have nx : TxtSet P w h3 D (dedupS (xs.take (i + 1))) := by
      rw [List.take_add_one, hx]
      show TxtSet P w h3 D (dedupS (xs.take i ++ [x]))
      rw [dedup_snoc]
      exact TxtSet.next hs3
    refine wpAny_pure ⟨plainId_quiet PyProof.Rows.F.plain_set_update_loop _, ih (i + 1) _ (by omega) lt (Wk.frame _ s2 _ _ st2 (Nat.le_succ _) fun b hb o e => ?_) nx fun s4 mv4 hs4 => ?_⟩
    · rw [only.2 b fun z => hD (z ▸ hb)]
      exact e
    · refine hR s4 (Moved.trans Wk.gtrans ((mv.mono more).then_heap (Nat.le_succ _) fun b o hb e => ?_) mv4) hs4
      rw [only.2 b fun z => hb (z ▸ List.mem_cons_self)]
      exact e
end
section
variable {P : Program} {w : World} {A : Around} {E : Value → Shared → Prop}
abbrev setO (led : Bool) : Obj := { cls := .type "set", dict := none, data := .set #[] 0 (.fresh 0 0 led) }
set_option maxHeartbeats 6400000 in
/-- set(tuple of texts) -/
theorem set_texts {s : Shared} {l : Addr} {vs : Array Value} {xs : List Str} {Q : Value → Shared → Prop} (hh : A.handled = none) (ht : s.heap.IsTuple l vs) (hx : PyProof.Rows.StrsAre vs.toList xs) (hn : xs.length ≤ 4000)
    (hq : ∀ (h2 : Heap) (tk : Nat), TxtSet P w h2 s.heap.objs.size (dedupS xs) → (∀ b o, b < s.heap.objs.size → s.heap.get? b = some o → h2.get? b = some o) → Q (.ref s.heap.objs.size) { s with heap := h2, toks := tk }) : wpAny (model P w) A (call (.type "set") [.ref l]) Q E s := by
  obtain ⟨mc, mt, hmro⟩ := PySem.F.called_set.mro
  have cm := PySem.F.called_set.made
  have cs := PySem.F.called_set.sub
  have cn := PySem.F.called_set.notType
  have cc := PySem.F.called_set.canCreate
  have ct := PySem.F.typeCall_set_1 (.ref l)
  refine wpAny_call (codeAny_of_tree ?_)
  show wpAny (model P w) _ (callAny (.type "set") _) _ _ _
  refine wpAny_pure ⟨Code.quiet_builtin _ (by decide +kernel), codeAny_builtin PySem.F.entry_type_call ?_⟩
  rw [Around.under_plain (weight_type_call_type "set" [.ref l] []) rfl]
  repeat (any_goals (first | assumption | wp_step))
  refine codeAny_mono (code_set_new_1 (.ref l) (E := E) (Q₁ := fun ob s1 => ∃ led : Bool, ob = .ref s.heap.objs.size ∧ s1 = { s with heap := s.heap.push (setO led) }) fun led => ⟨led, rfl, rfl⟩) fun r s1 hr => ?_
  rcases r with e | fl
  · exact hr
  · cases fl with
    | ret ob =>
      obtain ⟨led, rfl, rfl⟩ := hr
      have at0 : (s.heap.push (setO led)).get? s.heap.objs.size = some (setO led) := Heap.get?_push_size _ rfl
      have ty0 : Shared.TypeIs { s with heap := s.heap.push (setO led) } (.ref s.heap.objs.size) "set" := ⟨_, at0, rfl⟩
      have il := PySem.F.called_set.init.lookup
      have ib := PySem.F.called_set.init.bind (.ref s.heap.objs.size)
      repeat (any_goals (first | assumption | wp_step))
      refine codeAny_mono (codeAny_call_builtin (R := wants (fun r s2 => r = .none ∧ ∃ h2 tk, s2 = { s with heap := h2, toks := tk } ∧ TxtSet P w h2 s.heap.objs.size (dedupS xs) ∧ (∀ b o, b < s.heap.objs.size → s.heap.get? b = some o → h2.get? b = some o)) E) PySem.F.called_set.init.plain PySem.F.entry_set_init (check_set_init_1 ty0 ?_)) fun r2 s2 hr2 => ?_
      · obtain ⟨lo, hlo, lc, ln, ld⟩ := ht
        obtain ⟨c1, c2, c3, c4⟩ := lo
        simp only at lc ld
        subst lc ld
        have hlo2 : (s.heap.push (setO led)).get? l = some { cls := .type "tuple", dict := c2, data := .seq vs ln, slots := c4 } := Heap.get?_push_of_some _ hlo
        have t1 := F.sub_tuple_set
        have t2 := F.sub_tuple_frozenset
        have t3 : (Value.type "tuple" == Value.type "dict") = false := by decide
        have ht1 : (s.heap.push (setO led)).IsTuple l vs := ⟨_, hlo2, rfl, ln, rfl⟩
        unfold Builtin.«set.__init__» noKeywords Builtin.Frozenset.updateFrom
        generalize hPY : pyIter = PY
        wp_walk
        subst hPY
        refine wpAny_pyIter_tuple ht1 (wpAny_bind (wpAny_runValue ?_))
        have llt : l < s.heap.objs.size := Heap.lt_size hlo
        have zz : (s.heap.push (setO led)).objs.size = s.heap.objs.size + 1 := Heap.size_push ..
        have hl3 : A.in1.in1.in1.handled = none := by simp [hh]
        have nl : l ≠ (s.heap.push (setO led)).objs.size := Nat.ne_of_lt (by rw [zz]; exact Nat.lt_succ_of_lt llt)
        have nf : s.heap.objs.size ∉ [(s.heap.push (setO led)).objs.size, l] := by
          simp only [List.mem_cons, List.mem_singleton, List.not_mem_nil, or_false, not_or]
          exact ⟨Nat.ne_of_lt (by rw [zz]; exact Nat.lt_succ_self _), Nat.ne_of_gt llt⟩
        have hsz : xs.length = vs.size := by
          rw [← strsAre_len hx, Array.length_toList]
        have vals : ∀ (i : Nat) (v : Value), vs[i]? = some v → ∃ x t, xs[i]? = some x ∧ v = .str x t := by
          intro i v hv
          rw [← Array.getElem?_toList] at hv
          clear hq hlo hlo2 ht1 hsz hn nl nf
          revert hv
          generalize vs.toList = us at hx
          induction hx generalizing i with
          | nil => intro hv; simp at hv
          | cons y t hr ih2 =>
            intro hv
            cases i with
            | zero => simp at hv; exact ⟨y, t, rfl, hv.symm⟩
            | succ i => exact ih2 i (by simpa using hv)
        refine upd_texts ((Walks.tuple hl3 _ l nl vs).toS) s.heap.objs.size nf xs hsz (by omega) vals (vs.size - 0) 0 _ (by omega) (Nat.zero_le _) ⟨⟨_, Heap.get?_push_size _ rfl, rfl, rfl⟩, ht1.push _⟩ ?first ?last
        case first =>
          have g0 : ((s.heap.push (setO led)).push { cls := .type "tuple_iterator", data := .fields #[.ref l, .int 0 0] }).get? s.heap.objs.size = some (setO led) := Heap.get?_push_of_some _ at0
          exact SetOf_congr ((PyProof.Rows.setObjOf_fresh (knd := PySem.strKind P w) led).setOf g0 (by unfold scanBound; omega)) (fun _ => rfl) rfl
        case last =>
          intro s3 mv hs3
          obtain ⟨h3, g3, d3, t3, o3⟩ := s3
          cases (show g3 = s.gens from mv.gens)
          cases (show d3 = s.drawn from mv.drawn)
          cases (show o3 = s.os from mv.os)
          show wpAny _ _ _ _ _ _
          refine wpAny_pure ?_
          show wpAny _ _ (ret Value.none) _ _ _
          refine wpAny_pure ⟨rfl, h3, t3, rfl, hs3, fun b o lt e => ?_⟩
          refine mv.heap b o ?_ (Heap.get?_push_of_some _ (Heap.get?_push_of_some _ e))
          simp only [List.mem_cons, List.mem_singleton, List.not_mem_nil, or_false, not_or]
          exact ⟨Nat.ne_of_lt lt, Nat.ne_of_lt (by rw [zz]; exact Nat.lt_succ_of_lt lt)⟩
      · rcases r2 with e2 | fl2
        · exact hr2
        · cases fl2 with
          | ret r3 =>
            obtain ⟨rfl, h2, tk, rfl, p1, p2⟩ := hr2
            repeat (any_goals (first | assumption | wp_step))
            exact hq _ _ p1 p2
          | _ => exact hr2.elim
    | _ => exact hr.elim
end
def oLenSet : F1 := fun x S => match x with
  | .tup ds => (asStrs ds).bind fun xs => if xs.length ≤ 4000 then some (.int (dedupS xs).length, S) else none
  | _ => none
theorem strsAre_vals : ∀ {ys : List Str} {us : List Value}, Vals (ys.map V.str) us → PyProof.Rows.StrsAre us ys
  | [], _, .nil => .nil
  | y :: ys, _, .cons r t => by
    obtain ⟨k, rfl⟩ := r
    exact .cons y k (strsAre_vals t)
theorem de_lenSet {X : Cx} {a : Expr} {fa : FE} {p p2 q pos : Pos} (hm : X.mg "len" = none) (hm2 : X.mg "set" = none) (ha : DE X a fa) (hg : Gl X "len" := by rfl) (hg2 : Gl X "set" := by rfl) (hc : X.calm = true := by rfl)
    (na : starEach [a] X.env = (false, eval a X.env) :: starEach [] X.env := by first | exact st_cons rfl | rfl) : DE X (.Call (.Name "len" p) [.Call (.Name "set" p2) [a] [] q] [] pos) (fUn oLenSet fa) := by
  refine ⟨?_⟩
  intro σ β H env S d S' Q re rs hf qq pins s I
  obtain ⟨x, S1, e1, hf⟩ := bnd_inv hf
  refine wpAny_Call_Name_kw (ld_blt I hg hm boot_len ?_)
  refine PyProof.Rows.callWith_builtin1 (PyProof.Rows.args_cons ?_ rfl) rfl rfl
  refine wpAny_Call_Name_kw (ld_blt I hg2 hm2 boot_set ?_)
  refine PyProof.Rows.callWith_type1 (PyProof.Rows.args_cons (thn (goE.run pins s σ H _ I (ha.run σ β H env S x S1 (fun v H1 => ∃ β1, Step β H β1 H1 ∧ RS X.K β1 H1 S1 ∧ RD X.K β1 H1 x v) re rs e1 fun v β1 H1 st1 rs1 r1 => ⟨β1, st1, rs1, r1⟩)) fun u s1 hu => PyProof.Rows.args_nil ?_) na) na rfl
  obtain ⟨v, H1, I1, ru, β1, st1, rs1, r1⟩ := hu
  unfold oLenSet at hf
  split at hf
  · rename_i ds
    obtain ⟨xs, e2, hf⟩ := Option.bind_eq_some_iff.mp hf
    split at hf
    · rename_i hl
      cases hf
      obtain ⟨l, vs, rfl, h1, h2⟩ := r1.sqt
      have ev := h2.strs e2
      subst ev
      cases ru
      obtain ⟨its, rv, pl, _⟩ := I1.tuple h1
      refine set_texts (I1.ok.hd hc) pl (by simpa using strsAre_vals rv) hl fun h' tk hS k => PyProof.Rows.args_nil ?_
      obtain ⟨o, es, ep, t, ho, hex, hd, _, _, _, hfit, hn⟩ := hS
      have I2 : Inv X pins σ H1 { s1 with heap := h', toks := tk } := I1.kept fun b o e => k b o (Heap.lt_size e) e
      have lz : (dedupS xs).length ≤ 0 + xs.length := dedup_le xs []
      refine call_len_set ho hex hd hfit (by rw [hn] <;> omega) ⟨.int (dedupS xs).length, H1, I2.tok _, ⟨_, by rw [hn]⟩, ?_⟩
      exact qq _ β1 H1 st1 rs1 (.int _)
    · cases hf
  · cases hf
end Mir

set_option Elab.async false
set_option linter.all false
set_option maxRecDepth 100000
set_option autoImplicit false
set_option maxHeartbeats 1000000
/-! Mir13: reckoning with the mirror: no program in sight. -/
namespace Mir
open PySem L2

/-! ### values without places, stores in order -/
mutual
theorem D.blw_mono {n m : Nat} (h : n ≤ m) : ∀ d : D, d.blw n = true → d.blw m = true
  | .non, _ => by simp only [D.blw]
  | .bl _, _ => by simp only [D.blw]
  | .int _, _ => by simp only [D.blw]
  | .str _, _ => by simp only [D.blw]
  | .tup ds, e => by simp only [D.blw] at e ⊢; exact D.blws_mono h ds e
  | .lst ds, e => by simp only [D.blw] at e ⊢; exact D.blws_mono h ds e
  | .fro ds, e => by simp only [D.blw] at e ⊢; exact D.blws_mono h ds e
  | .dic _ ds, e => by simp only [D.blw] at e ⊢; exact D.blws_mono h ds e
  | .loc k, e => by simp only [D.blw, decide_eq_true_eq] at e ⊢; omega
  | .raw _, _ => by simp only [D.blw]
theorem D.blws_mono {n m : Nat} (h : n ≤ m) : ∀ ds : List D, D.blws n ds = true → D.blws m ds = true
  | [], _ => by simp only [D.blws]
  | d :: ds, e => by
    simp only [D.blws, Bool.and_eq_true] at e ⊢
    exact ⟨D.blw_mono h d e.1, D.blws_mono h ds e.2⟩
end
theorem D.blws_all {n : Nat} : ∀ ds : List D, D.blws n ds = true ↔ ∀ d ∈ ds, d.blw n = true
  | [] => by simp [D.blws]
  | d :: ds => by simp [D.blws, D.blws_all ds]
theorem D.blws_app {n : Nat} (ds es : List D) : D.blws n (ds ++ es) = (D.blws n ds && D.blws n es) := by
  rw [Bool.eq_iff_iff, Bool.and_eq_true, D.blws_all, D.blws_all, D.blws_all]
  constructor
  · intro h
    exact ⟨fun d hd => h d (List.mem_append_left _ hd), fun d hd => h d (List.mem_append_right _ hd)⟩
  · rintro ⟨h1, h2⟩ d hd
    rcases List.mem_append.mp hd with q | q
    · exact h1 d q
    · exact h2 d q
theorem O.blw_mono {n m : Nat} (h : n ≤ m) (o : O) (e : o.blw n = true) : o.blw m = true := by
  cases o with
  | lst ds => simp only [O.blw] at e ⊢; exact D.blws_mono h ds e
  | dic ks ds => simp only [O.blw] at e ⊢; exact D.blws_mono h ds e
  | ins C fs ds => simp only [O.blw] at e ⊢; exact D.blws_mono h ds e
def SOk (S : Store) : Prop := S.all (O.blw S.length) = true
theorem SOk.nil : SOk [] := rfl
theorem SOk.snoc {S : Store} {o : O} (h : SOk S) (ho : o.blw 0 = true) : SOk (S ++ [o]) := by
  unfold SOk at *
  rw [List.all_append, Bool.and_eq_true]
  refine ⟨List.all_eq_true.mpr fun x hx => O.blw_mono (by simp) x (List.all_eq_true.mp h x hx), ?_⟩
  simp only [List.all_cons, List.all_nil, Bool.and_true]
  exact O.blw_mono (Nat.zero_le _) o ho
theorem SOk.head {o o' : O} {r : Store} (h : SOk (o :: r)) (ho : o'.blw 0 = true) : SOk (o' :: r) := by
  unfold SOk at *
  simp only [List.all_cons, Bool.and_eq_true, List.length_cons] at *
  exact ⟨O.blw_mono (Nat.zero_le _) o' ho, h.2⟩
theorem closeV_val {S : Store} {d : D} (hS : SOk S) (hd : d.blw 0 = true) : closeV S.length d S = some (d, S) := by
  have hb : d.blw S.length = true := D.blw_mono (Nat.zero_le _) d hd
  unfold closeV
  rw [List.take_length, if_pos (show S.all (O.blw S.length) = true from hS)]
  cases d with
  | loc m => simp [D.blw] at hd
  | _ => simp only [hb, if_true]
theorem closeV_bl {S : Store} {b : Bool} (hS : SOk S) : closeV S.length (.bl b) S = some (.bl b, S) := closeV_val hS (by simp only [D.blw])

/-! ### comprehensions -/
theorem lc_pure {tg : FG} {ts : FT} {elt : FE} {w : Env} {p : D → Bool} {y : D → D} {S : Store} (hS : SOk S) : ∀ (ds acc : List D),
    (∀ d ∈ ds, ∃ e1, ∀ S', SOk S' → tg d w S' = some (e1, S') ∧ ts e1 S' = some (p d, S') ∧ (p d = true → elt e1 S' = some (y d, S') ∧ (y d).blw 0 = true)) →
    D.blws 0 acc = true → acc.length + ds.length ≤ sizeLine → lcGo tg ts elt w S.length ds (S ++ [.lst acc]) = some (S ++ [.lst (acc ++ (ds.filter p).map y)])
  | [], acc, _, _, _ => by simp [lcGo]
  | d :: ds, acc, h, ha, hl => by
    obtain ⟨e1, h1⟩ := h d (List.mem_cons_self)
    have hok : SOk (S ++ [.lst acc]) := hS.snoc (by simpa only [O.blw] using ha)
    obtain ⟨h2, h3, h4⟩ := h1 _ hok
    simp only [List.length_cons] at hl
    unfold lcGo
    rw [h2, bnd_some, h3, bnd_some]
    cases hp : p d with
    | true =>
      obtain ⟨h5, h6⟩ := h4 hp
      rw [if_pos rfl, h5, bnd_some]
      have e : (S ++ [O.lst acc])[S.length]? = some (.lst acc) := by simp
      have e2 : (S ++ [O.lst acc]).set S.length (.lst (acc ++ [y d])) = S ++ [.lst (acc ++ [y d])] := by simp
      have ih := lc_pure hS ds (acc ++ [y d]) (fun d hd => h d (List.mem_cons_of_mem _ hd)) (by rw [D.blws_app, ha]; simp [D.blws, h6]) (by simp; omega)
      simp only [e, e2]
      rw [if_pos (by omega), ih]
      simp [hp]
    | false =>
      rw [if_neg Bool.false_ne_true]
      have ih := lc_pure hS ds acc (fun d hd => h d (List.mem_cons_of_mem _ hd)) ha (by omega)
      rw [ih]
      simp [hp]
theorem fLc_pure {it : FA} {tg : FG} {ts : FT} {elt : FE} {vs : List Nat} {env : Env} {S : Store} {ds : List D} (p : D → Bool) (y : D → D) (hS : SOk S) (hi : it env S = some (ds, S))
    (h : ∀ d ∈ ds, ∃ e1, ∀ S', SOk S' → tg d (wipeE env vs) S' = some (e1, S') ∧ ts e1 S' = some (p d, S') ∧ (p d = true → elt e1 S' = some (y d, S') ∧ (y d).blw 0 = true)) (hl : ds.length ≤ sizeLine) :
    fLc it tg ts elt vs env S = some (.lst ((ds.filter p).map y), S) := by
  have g := lc_pure hS ds [] h rfl (by simpa using hl)
  have hb : D.blws S.length ((ds.filter p).map y) = true := D.blws_mono (Nat.zero_le _) _ ((D.blws_all _).mpr fun d hd => by
    obtain ⟨x, hx, rfl⟩ := List.mem_map.mp hd
    obtain ⟨hx, hp⟩ := List.mem_filter.mp hx
    obtain ⟨e1, h1⟩ := h x hx
    exact ((h1 S hS).2.2 hp).2)
  unfold fLc fCl fLcM
  rw [hi, bnd_some, g]
  show closeV S.length (.loc S.length) (S ++ [.lst ([] ++ (ds.filter p).map y)]) = _
  unfold closeV
  have e1 : (S ++ [O.lst ([] ++ (ds.filter p).map y)]).take S.length = S := by simp
  rw [e1, if_pos (show S.all (O.blw S.length) = true from hS)]
  simp [hb]
theorem fLc_map {it : FA} {tg : FG} {elt : FE} {vs : List Nat} {env : Env} {S : Store} {ds : List D} (y : D → D) (hS : SOk S) (hi : it env S = some (ds, S))
    (h : ∀ d ∈ ds, ∃ e1, ∀ S', SOk S' → tg d (wipeE env vs) S' = some (e1, S') ∧ elt e1 S' = some (y d, S') ∧ (y d).blw 0 = true) (hl : ds.length ≤ sizeLine) :
    fLc it tg tYesF elt vs env S = some (.lst (ds.map y), S) := by
  have e : ds.filter (fun _ => true) = ds := by
    clear h hl hi
    induction ds with
    | nil => rfl
    | cons d ds ih => rw [List.filter_cons_of_pos rfl, ih]
  rw [fLc_pure (fun _ => true) y hS hi (fun d hd => by
    obtain ⟨e1, h1⟩ := h d hd
    exact ⟨e1, fun S' hS' => ⟨(h1 S' hS').1, rfl, fun _ => (h1 S' hS').2⟩⟩) hl, e]
theorem atI_zero {α : Type} (x : α) (r : List α) : atI (x :: r) 0 = some x := atI_nat (j := 0) rfl
/-- a comprehension whose elements are drawn: the first place of the store changes with each -/
theorem lc_draw {tg : FG} {elt : FE} {w : Env} {J : O → Prop} {P : D → Prop} (hJ : ∀ o, J o → o.blw 0 = true) (hP : ∀ y, P y → y.blw 0 = true) : ∀ (ds acc : List D) (o : O) (r : Store),
    (∀ d ∈ ds, ∀ o r, J o → SOk (o :: r) → ∃ y o' e1, P y ∧ J o' ∧ tg d w (o :: r) = some (e1, o :: r) ∧ elt e1 (o :: r) = some (y, o' :: r)) →
    J o → SOk (o :: r) → D.blws 0 acc = true → acc.length + ds.length ≤ sizeLine →
    ∃ ys o', J o' ∧ (∀ y ∈ ys, P y) ∧ ys.length = ds.length ∧ lcGo tg tYesF elt w (r.length + 1) ds (o :: (r ++ [.lst acc])) = some (o' :: (r ++ [.lst (acc ++ ys)]))
  | [], acc, o, r, _, jo, _, _, _ => ⟨[], o, jo, nofun, rfl, by simp [lcGo]⟩
  | d :: ds, acc, o, r, h, jo, hS, ha, hl => by
    have hok : SOk (o :: (r ++ [.lst acc])) := SOk.snoc (S := o :: r) hS (by simpa only [O.blw] using ha)
    obtain ⟨y, o1, e1, py, j1, h1, h2⟩ := h d (List.mem_cons_self) o _ jo hok
    simp only [List.length_cons] at hl
    have hb := hP y py
    obtain ⟨ys, o', j', pys, lys, ih⟩ := lc_draw hJ hP ds (acc ++ [y]) o1 r (fun d hd => h d (List.mem_cons_of_mem _ hd)) j1 (hS.head (hJ _ j1)) (by rw [D.blws_app, ha]; simp [D.blws, hb]) (by simp; omega)
    refine ⟨y :: ys, o', j', fun z hz => ?_, by simp [lys], ?_⟩
    · rcases List.mem_cons.mp hz with rfl | hz
      · exact py
      · exact pys z hz
    · unfold lcGo
      rw [h1, bnd_some]
      show bnd (some (true, _)) _ = _
      rw [bnd_some, if_pos rfl, h2, bnd_some]
      have e : (o1 :: (r ++ [O.lst acc]))[r.length + 1]? = some (.lst acc) := by simp
      have e2 : (o1 :: (r ++ [O.lst acc])).set (r.length + 1) (.lst (acc ++ [y])) = o1 :: (r ++ [.lst (acc ++ [y])]) := by simp
      simp only [e, e2]
      rw [if_pos (by omega), ih]
      simp
theorem fLc_draw {it : FA} {tg : FG} {elt : FE} {vs : List Nat} {env : Env} {J : O → Prop} {P : D → Prop} {ds : List D} {o o1 : O} {r : Store} (hJ : ∀ o, J o → o.blw 0 = true) (hP : ∀ y, P y → y.blw 0 = true)
    (hi : it env (o1 :: r) = some (ds, o :: r)) (jo : J o) (hS : SOk (o :: r)) (hl : ds.length ≤ sizeLine)
    (h : ∀ d ∈ ds, ∀ o r, J o → SOk (o :: r) → ∃ y o' e1, P y ∧ J o' ∧ tg d (wipeE env vs) (o :: r) = some (e1, o :: r) ∧ elt e1 (o :: r) = some (y, o' :: r)) :
    ∃ ys o', J o' ∧ (∀ y ∈ ys, P y) ∧ ys.length = ds.length ∧ fLc it tg tYesF elt vs env (o1 :: r) = some (.lst ys, o' :: r) := by
  obtain ⟨ys, o', j', pys, lys, g⟩ := lc_draw (w := wipeE env vs) hJ hP ds [] o r h jo hS rfl (by simpa using hl)
  refine ⟨ys, o', j', pys, lys, ?_⟩
  have hb : D.blws (r.length + 1) ys = true := D.blws_mono (Nat.zero_le _) _ ((D.blws_all _).mpr fun d hd => hP d (pys d hd))
  have hok : SOk (o' :: r) := hS.head (hJ _ j')
  unfold fLc fCl fLcM
  rw [hi, bnd_some]
  have g' : lcGo tg tYesF elt (wipeE env vs) (o :: r).length ds (o :: r ++ [.lst []]) = some (o' :: (r ++ [.lst ([] ++ ys)])) := g
  rw [g']
  show closeV (r.length + 1) (.loc (r.length + 1)) (o' :: (r ++ [.lst ([] ++ ys)])) = _
  unfold closeV
  have e1 : (o' :: (r ++ [O.lst ([] ++ ys)])).take (r.length + 1) = o' :: r := by simp
  rw [e1]
  have hok2 : (o' :: r).all (O.blw (r.length + 1)) = true := hok
  rw [if_pos hok2]
  simp [hb]

/-! ### statements -/
theorem run_cons {f g : FS} {env env' : Env} {S S' : Store} (h : f env S = some (.nx env', S')) : sCons f g env S = g env' S' := by
  unfold sCons
  rw [h]
  rfl
theorem run_set {f : FE} {env : Env} {S S' : Store} {d : D} {i : Nat} (h : f env S = some (d, S')) : sSet i f env S = some (.nx (env.set i (some d)), S') := by
  unfold sSet
  rw [h]
  rfl
theorem run_ifF {c : FT} {f g : FS} {env : Env} {S S' : Store} (h : c env S = some (false, S')) : sIf c f g env S = g env S' := by
  unfold sIf
  rw [h]
  rfl
theorem run_ifT {c : FT} {f g : FS} {env : Env} {S S' : Store} (h : c env S = some (true, S')) : sIf c f g env S = f env S' := by
  unfold sIf
  rw [h]
  rfl
end Mir

set_option Elab.async false
set_option linter.all false
set_option maxRecDepth 100000
set_option autoImplicit false
set_option maxHeartbeats 1000000
/-! Mir14: the mirror gone through from the front: what is asked ahead so that Q holds behind. -/
namespace Mir
open PySem L2

/-- x is a value and a store of which Q holds -/
def Wd {α : Type} (x : Option (α × Store)) (Q : α → Store → Prop) : Prop := ∃ a S, x = some (a, S) ∧ Q a S
section
variable {α β : Type} {x : Option (α × Store)} {Q : α → Store → Prop}
theorem wd_some {a : α} {S : Store} : Wd (some (a, S)) Q ↔ Q a S :=
  ⟨fun ⟨_, _, e, q⟩ => by cases e; exact q, fun q => ⟨_, _, rfl, q⟩⟩
theorem wd_none : Wd (none : Option (α × Store)) Q ↔ False := ⟨fun ⟨_, _, e, _⟩ => (nomatch e), False.elim⟩
theorem wd_of {a : α} {S : Store} (e : x = some (a, S)) (q : Q a S) : Wd x Q := ⟨a, S, e, q⟩
theorem wd_eq {a : α} {S : Store} (e : x = some (a, S)) : Wd x Q ↔ Q a S := by
  rw [e]
  exact wd_some
theorem of_wd {a : α} {S : Store} (h : Wd x fun b S' => b = a ∧ S' = S) : x = some (a, S) := by
  obtain ⟨_, _, e, rfl, rfl⟩ := h
  exact e
theorem wd_mono {P : α → Store → Prop} (h : Wd x P) (k : ∀ a S, P a S → Q a S) : Wd x Q := by
  obtain ⟨a, S, e, p⟩ := h
  exact ⟨a, S, e, k a S p⟩
theorem wd_bnd {k : α → Store → Option (β × Store)} {R : β → Store → Prop} : Wd (bnd x k) R ↔ Wd x fun a S => Wd (k a S) R := by
  constructor
  · rintro ⟨b, S, e, q⟩
    obtain ⟨a, S1, e1, e2⟩ := bnd_inv e
    exact ⟨a, S1, e1, b, S, e2, q⟩
  · rintro ⟨a, S1, rfl, b, S, e2, q⟩
    exact ⟨b, S, e2, q⟩
theorem wd_if {c : Prop} [Decidable c] {y : Option (α × Store)} : Wd (if c then x else y) Q ↔ (if c then Wd x Q else Wd y Q) := by
  split <;> rfl
theorem wd_guard {c : Prop} [Decidable c] : Wd (if c then x else none) Q ↔ c ∧ Wd x Q := by
  split
  · rename_i h
    exact ⟨fun q => ⟨h, q⟩, fun q => q.2⟩
  · rename_i h
    exact ⟨fun q => (wd_none.mp q).elim, fun q => absurd q.1 h⟩
theorem wd_asB {y : Option (D × Store)} {R : Bool → Store → Prop} : Wd (asB y) R ↔ Wd y fun d S => ∃ b, d = .bl b ∧ R b S := by
  constructor
  · rintro ⟨b, S, e, q⟩
    exact ⟨.bl b, S, asB_inv e, b, rfl, q⟩
  · rintro ⟨d, S, rfl, b, rfl, q⟩
    exact ⟨b, S, rfl, q⟩
theorem wd_asI {y : Option (D × Store)} {R : Int → Store → Prop} : Wd (asI y) R ↔ Wd y fun d S => ∃ b, d = .int b ∧ R b S := by
  constructor
  · rintro ⟨b, S, e, q⟩
    exact ⟨.int b, S, asI_inv e, b, rfl, q⟩
  · rintro ⟨d, S, rfl, b, rfl, q⟩
    exact ⟨b, S, rfl, q⟩
end
section
variable {env : Env} {S : Store} {Q : D → Store → Prop} {QT : Bool → Store → Prop} {QA : List D → Store → Prop} {QS : Rt → Store → Prop} {f g h : FE} {o o' : F2} {o1 : F1} {F : FF} {ga gb : FA} {t u : FT} {a b : FS} {d : D} {i : Nat}
theorem w_c : Wd (fC d env S) Q ↔ Q d S := wd_some
theorem w_var {x : D} (e : env[i]? = some (some x)) : Wd (fVar i env S) Q ↔ Q x S := by
  unfold fVar
  rw [e]
  exact wd_some
theorem w_op : Wd (fOp o f g env S) Q ↔ Wd (f env S) fun x S1 => Wd (g env S1) fun y S2 => Wd (o x y S2) Q := by
  unfold fOp
  simp only [wd_bnd]
theorem w_un : Wd (fUn o1 f env S) Q ↔ Wd (f env S) fun x S1 => Wd (o1 x S1) Q := by
  unfold fUn
  simp only [wd_bnd]
theorem w_call : Wd (fCall F ga env S) Q ↔ Wd (ga env S) fun xs S1 => Wd (F xs S1) Q := by
  unfold fCall
  simp only [wd_bnd]
theorem w_nil : Wd (fNil env S) QA ↔ QA [] S := wd_some
theorem w_consA : Wd (fCons f ga env S) QA ↔ Wd (f env S) fun x S1 => Wd (ga env S1) fun xs S2 => QA (x :: xs) S2 := by
  unfold fCons
  simp only [wd_bnd, wd_some]
theorem w_tup : Wd (fTup ga env S) Q ↔ Wd (ga env S) fun xs S1 => xs.length ≤ sizeLine ∧ Q (.tup xs) S1 := by
  unfold fTup
  simp only [wd_bnd, wd_guard, wd_some]
theorem w_lst : Wd (fLst ga env S) Q ↔ Wd (ga env S) fun xs S1 => xs.length ≤ sizeLine ∧ Q (.lst xs) S1 := by
  unfold fLst
  simp only [wd_bnd, wd_guard, wd_some]
theorem w_lstM : Wd (fLstM ga env S) Q ↔ Wd (ga env S) fun xs S1 => xs.length ≤ sizeLine ∧ Q (.loc S1.length) (S1 ++ [.lst xs]) := by
  unfold fLstM
  simp only [wd_bnd, wd_guard, wd_some]
theorem w_andV : Wd (fAndV f g env S) Q ↔ Wd (f env S) fun x S1 => ∃ c, x = .bl c ∧ (if c then Wd (g env S1) Q else Q (.bl false) S1) := by
  unfold fAndV
  simp only [wd_bnd, wd_asB, wd_if, wd_some]
theorem w_orV : Wd (fOrV f g env S) Q ↔ Wd (f env S) fun x S1 => ∃ c, x = .bl c ∧ (if c then Q (.bl true) S1 else Wd (g env S1) Q) := by
  unfold fOrV
  simp only [wd_bnd, wd_asB, wd_if, wd_some]
theorem w_notV : Wd (fNotV f env S) Q ↔ Wd (f env S) fun x S1 => ∃ c, x = .bl c ∧ Q (.bl (!c)) S1 := by
  unfold fNotV
  simp only [wd_bnd, wd_asB, wd_some]
theorem w_ifE : Wd (fIf t f g env S) Q ↔ Wd (t env S) fun c S1 => if c then Wd (f env S1) Q else Wd (g env S1) Q := by
  unfold fIf
  simp only [wd_bnd, wd_if]
theorem w_chain : Wd (fChain o o' f g h env S) Q ↔ Wd (f env S) fun x S1 => Wd (g env S1) fun y S2 => Wd (o x y S2) fun k S3 => ∃ c, k = .bl c ∧ (if c then (Wd (h env S3) fun z S4 => Wd (o' y z S4) Q) else Q (.bl false) S3) := by
  unfold fChain
  simp only [wd_bnd, wd_asB, wd_if, wd_some]
theorem w_B : Wd (fB f env S) QT ↔ Wd (f env S) fun x S1 => ∃ c, x = .bl c ∧ QT c S1 := by
  unfold fB
  simp only [wd_asB]
theorem w_tr : Wd (fTr f env S) QT ↔ Wd (f env S) fun x S1 => ∃ c, truD S1 x = some c ∧ QT c S1 := by
  unfold fTr
  simp only [wd_bnd]
  constructor
  · rintro ⟨x, S1, e, c, S2, e2, q⟩
    obtain ⟨k, e3, e4⟩ := Option.map_eq_some_iff.mp e2
    cases e4
    exact ⟨x, _, e, _, e3, q⟩
  · rintro ⟨x, S1, e, c, e2, q⟩
    exact ⟨x, S1, e, c, S1, by rw [e2]; rfl, q⟩
theorem w_and : Wd (fAnd t u env S) QT ↔ Wd (t env S) fun c S1 => if c then Wd (u env S1) QT else QT false S1 := by
  unfold fAnd
  simp only [wd_bnd, wd_if, wd_some]
theorem w_or : Wd (fOr t u env S) QT ↔ Wd (t env S) fun c S1 => if c then QT true S1 else Wd (u env S1) QT := by
  unfold fOr
  simp only [wd_bnd, wd_if, wd_some]
theorem w_not : Wd (fNot t env S) QT ↔ Wd (t env S) fun c S1 => QT (!c) S1 := by
  unfold fNot
  simp only [wd_bnd, wd_some]
theorem w_yes : Wd (tYesF env S) QT ↔ QT true S := wd_some
theorem w_sl {l r : FO} : Wd (fSl f l r env S) Q ↔ Wd (f env S) fun x S1 => Wd (l env S1) fun y S2 => Wd (r env S2) fun z S3 => Wd (oSl x y z S3) Q := by
  unfold fSl
  simp only [wd_bnd]
theorem w_oN {R : Option Int → Store → Prop} : Wd (foNone env S) R ↔ R none S := wd_some
theorem w_oS {R : Option Int → Store → Prop} : Wd (foSome f env S) R ↔ Wd (f env S) fun x S1 => ∃ k, x = .int k ∧ R (some k) S1 := by
  unfold foSome
  simp only [wd_bnd, wd_asI, wd_some]
theorem w_rng1 : Wd (fRng1 f env S) QA ↔ Wd (f env S) fun x S1 => ∃ k, x = .int k ∧ okR k = true ∧ QA (rng 0 k) S1 := by
  unfold fRng1
  simp only [wd_bnd, wd_asI, wd_guard, wd_some]
/-! statements -/
theorem w_sN : Wd (sNil env S) QS ↔ QS (.nx env) S := wd_some
theorem w_seq : Wd (sCons a b env S) QS ↔ Wd (a env S) fun r S1 => (match r with
    | .nx e => Wd (b e S1) QS
    | r => QS r S1) := by
  unfold sCons
  rw [wd_bnd]
  constructor
  · rintro ⟨r, S1, e, q⟩
    refine ⟨r, S1, e, ?_⟩
    cases r with
    | nx e => exact q
    | _ => exact wd_some.mp q
  · rintro ⟨r, S1, e, q⟩
    refine ⟨r, S1, e, ?_⟩
    cases r with
    | nx e => exact q
    | _ => exact wd_some.mpr q
theorem w_ret : Wd (sRet f env S) QS ↔ Wd (f env S) fun d S1 => QS (.rt d) S1 := by
  unfold sRet
  simp only [wd_bnd, wd_some]
theorem w_retN : Wd (sRetN env S) QS ↔ QS (.rt .non) S := wd_some
theorem w_set : Wd (sSet i f env S) QS ↔ Wd (f env S) fun d S1 => QS (.nx (env.set i (some d))) S1 := by
  unfold sSet
  simp only [wd_bnd, wd_some]
theorem w_if : Wd (sIf t a b env S) QS ↔ Wd (t env S) fun c S1 => if c then Wd (a env S1) QS else Wd (b env S1) QS := by
  unfold sIf
  simp only [wd_bnd, wd_if]
theorem w_drop : Wd (sDrop f env S) QS ↔ Wd (f env S) fun _ S1 => QS (.nx env) S1 := by
  unfold sDrop
  simp only [wd_bnd, wd_some]
theorem w_par {j : Nat} : Wd (sPar i j ga env S) QS ↔ Wd (ga env S) fun ds S1 => ∃ x y, ds = [x, y] ∧ QS (.nx ((env.set i (some x)).set j (some y))) S1 := by
  unfold sPar
  rw [wd_bnd]
  constructor
  · rintro ⟨ds, S1, e, r, S2, e2, q⟩
    split at e2
    · cases e2
      exact ⟨_, _, e, _, _, rfl, q⟩
    · cases e2
  · rintro ⟨ds, S1, e, x, y, rfl, q⟩
    exact ⟨_, _, e, _, _, rfl, q⟩
theorem w_sub : Wd (sSub f g h env S) QS ↔ Wd (f env S) fun v S1 => Wd (g env S1) fun o S2 => Wd (h env S2) fun i S3 => ∃ S4, ixSet S3 o i v = some S4 ∧ QS (.nx env) S4 := by
  unfold sSub
  simp only [wd_bnd]
  have e : ∀ (S3 : Store) (o i v : D), Wd ((ixSet S3 o i v).map fun S4 => (Rt.nx env, S4)) QS ↔ ∃ S4, ixSet S3 o i v = some S4 ∧ QS (.nx env) S4 := by
    intro S3 o i v
    constructor
    · rintro ⟨r, S4, e, q⟩
      obtain ⟨k, e3, e4⟩ := Option.map_eq_some_iff.mp e
      cases e4
      exact ⟨_, e3, q⟩
    · rintro ⟨S4, e, q⟩
      exact ⟨_, S4, by rw [e]; rfl, q⟩
  simp only [e]
theorem w_fn {c : Nat → D → Store → Option (D × Store)} {n m : Nat} {B : FS} {ds : List D} (hl : ds.length = m) (h : Wd (B (ds.map some ++ List.replicate (n - m) none) S) fun r S1 => ∃ d, (r = .rt d ∨ ((∃ e, r = .nx e) ∧ d = .non)) ∧ Wd (c S.length d S1) Q) : Wd (fnC c n m B ds S) Q := by
  obtain ⟨r, S1, e, d, hr, d2, S2, e2, q⟩ := h
  refine ⟨d2, S2, ?_, q⟩
  unfold fnC
  rw [if_pos hl, e]
  rcases hr with rfl | ⟨⟨e', rfl⟩, rfl⟩
  · exact e2
  · exact e2
/-- a for loop by what holds between two turns -/
theorem w_for {it : FA} {tg : FG} {body : FS} {ds : List D} {S1 : Store} (J : Env → Store → Prop) (hi : it env S = some (ds, S1)) (h0 : J env S1)
    (hs : ∀ d ∈ ds, ∀ e S2, J e S2 → Wd (tg d e S2) fun e1 S3 => Wd (body e1 S3) fun r S4 => ∃ e2, r = .nx e2 ∧ J e2 S4) (hq : ∀ e S2, J e S2 → QS (.nx e) S2) : Wd (sFor it tg body env S) QS := by
  unfold sFor
  rw [hi, bnd_some]
  clear hi
  induction ds generalizing env S1 with
  | nil => exact wd_some.mpr (hq env S1 h0)
  | cons d ds ih =>
    obtain ⟨e1, S3, h1, r, S4, h2, e2, rfl, j⟩ := hs d (List.mem_cons_self) env S1 h0
    unfold forGo
    rw [h1, bnd_some, h2, bnd_some]
    exact ih j fun x hx => hs x (List.mem_cons_of_mem _ hx)
end
end Mir

set_option Elab.async false
set_option linter.all false
set_option maxRecDepth 100000
set_option autoImplicit false
set_option maxHeartbeats 1000000
namespace K00
open PySem PySem.P PySem.Spec PyProof.Rows L2 Mir
def topS (i : Nat) : Stmt := PySem.Challenge.pw_pagebooks_k00_forms_of_any_values.main.body.getD i (.Pass ⟨0, 0, 0, 0⟩)
def v_RESERVED : List Str := ["above", "end", "entries", "least", "lengths", "none", "of", "reach", "room", "rule", "shelf", "slots"]
/-- what the walk asks of the top -/
structure Tp (K : PySem.W.Frag) (mg : Str → Option Value) : Prop where
  z_abs : mg "abs" = none
  z_all : mg "all" = none
  z_bool : mg "bool" = none
  z_int : mg "int" = none
  z_isinstance : mg "isinstance" = none
  z_len : mg "len" = none
  z_range : mg "range" = none
  z_repr : mg "repr" = none
  z_set : mg "set" = none
  z_sorted : mg "sorted" = none
  z_str : mg "str" = none
  z_tuple : mg "tuple" = none
  z_zip : mg "zip" = none
  c_DIGITS : ∃ t, mg "DIGITS" = some (.str "0123456789" t)
  c_LETTERS : ∃ t, mg "LETTERS" = some (.str "abcdefghijklmnopqrstuvwxyz" t)
  c_MOST_LENGTH : ∃ t, mg "MOST_LENGTH" = some (.int 12 t)
  c_MOST_SIGNS : ∃ t, mg "MOST_SIGNS" = some (.int 8 t)
  c_MOST_THING : ∃ t, mg "MOST_THING" = some (.int 999 t)
  c_RESERVED : TupS K mg "RESERVED" v_RESERVED
abbrev s_is_integer : Stmt := topS 7
theorem sc_is_integer : FnScope ["thing"] ["thing"] (defScope s_is_integer) := ⟨rfl, rfl, rfl, by decide +kernel, rfl, by decide +kernel, by decide +kernel⟩
def B_is_integer : FS := sRet (fAndV (fCall bIsi (fCons (fVar 0) (fCons (fC (.raw (.ty "int"))) (fNil)))) (fNotV (fCall bIsi (fCons (fVar 0) (fCons (fC (.raw (.ty "bool"))) (fNil))))))
def F_is_integer : FF := fnC closeV 1 1 B_is_integer
abbrev s_is_count : Stmt := topS 8
theorem sc_is_count : FnScope ["thing"] ["thing"] (defScope s_is_count) := ⟨rfl, rfl, rfl, by decide +kernel, rfl, by decide +kernel, by decide +kernel⟩
def B_is_count : FS := sRet (fAndV (fCall F_is_integer (fCons (fVar 0) (fNil))) (fOp oGe (fVar 0) (fC (.int 0))))
def F_is_count : FF := fnC closeV 1 1 B_is_count
abbrev s_is_between : Stmt := topS 9
theorem sc_is_between : FnScope ["thing", "least", "most"] ["thing", "least", "most"] (defScope s_is_between) := ⟨rfl, rfl, rfl, by decide +kernel, rfl, by decide +kernel, by decide +kernel⟩
def B_is_between : FS := sRet (fAndV (fCall F_is_integer (fCons (fVar 0) (fNil))) (fChain oLe oLe (fVar 1) (fVar 0) (fVar 2)))
def F_is_between : FF := fnC closeV 3 3 B_is_between
abbrev s_is_name : Stmt := topS 10
theorem sc_is_name : FnScope ["thing", "sign"] ["thing"] (defScope s_is_name) := ⟨rfl, rfl, rfl, by decide +kernel, rfl, by decide +kernel, by decide +kernel⟩
def B_is_name : FS := sCons (sIf (fOr (fNot (fTr (fCall bIsi (fCons (fVar 0) (fCons (fC (.raw (.ty "str"))) (fNil)))))) (fOr (fNot (fB (fChain oLe oLe (fC (.int 1)) (fCall bLen (fCons (fVar 0) (fNil))) (fC (.int 8))))) (fB (fOp (oInN true) (fOp oIx (fVar 0) (fC (.int 0))) (fC (.str "abcdefghijklmnopqrstuvwxyz")))))) (sRet (fC (.bl false))) (sNil)) (sRet (fAndV (fCall bAll (fCons (fLc (fIt gSeq (fVar 0)) (tgN 1) (tYesF) (fOp (oInN false) (fVar 1) (fOp oAdd (fC (.str "abcdefghijklmnopqrstuvwxyz")) (fC (.str "0123456789")))) [1]) (fNil))) (fOp (oInN true) (fVar 0) (fC (.tup (v_RESERVED.map .str))))))
def F_is_name : FF := fnC closeV 2 1 B_is_name
abbrev s_is_thing : Stmt := topS 16
theorem sc_is_thing : FnScope ["thing"] ["thing"] (defScope s_is_thing) := ⟨rfl, rfl, rfl, by decide +kernel, rfl, by decide +kernel, by decide +kernel⟩
def B_is_thing : FS := sRet (fCall F_is_between (fCons (fVar 0) (fCons (fC (.int 0)) (fCons (fC (.int 999)) (fNil)))))
def F_is_thing : FF := fnC closeV 1 1 B_is_thing
abbrev s_is_length : Stmt := topS 17
theorem sc_is_length : FnScope ["thing"] ["thing"] (defScope s_is_length) := ⟨rfl, rfl, rfl, by decide +kernel, rfl, by decide +kernel, by decide +kernel⟩
def B_is_length : FS := sRet (fCall F_is_between (fCons (fVar 0) (fCons (fC (.int 1)) (fCons (fC (.int 12)) (fNil)))))
def F_is_length : FF := fnC closeV 1 1 B_is_length
abbrev s_is_tuple_of : Stmt := topS 11
theorem sc_is_tuple_of : FnScope ["thing", "is_item", "item"] ["thing", "is_item"] (defScope s_is_tuple_of) := ⟨rfl, rfl, rfl, by decide +kernel, rfl, by decide +kernel, by decide +kernel⟩
def B_is_tuple_of (a_is_count a_is_length a_is_name : Addr) : FS := sRet (fAndV (fCall bIsi (fCons (fVar 0) (fCons (fC (.raw (.ty "tuple"))) (fNil)))) (fCall bAll (fCons (fLc (fIt gSeq (fVar 0)) (tgN 2) (tYesF) (fCallV (tabL [(a_is_count, F_is_count), (a_is_name, F_is_name), (a_is_length, F_is_length)]) 1 (fCons (fVar 2) (fNil))) [2]) (fNil))))
def F_is_tuple_of (a_is_count a_is_length a_is_name : Addr) : FF := fnC closeV 3 2 (B_is_tuple_of a_is_count a_is_length a_is_name)
abbrev s_are_ascending : Stmt := topS 12
theorem sc_are_ascending : FnScope ["things", "one", "other"] ["things"] (defScope s_are_ascending) := ⟨rfl, rfl, rfl, by decide +kernel, rfl, by decide +kernel, by decide +kernel⟩
def B_are_ascending : FS := sRet (fCall bAll (fCons (fLc (fZip (fCons (fVar 0) (fCons (fSl (fVar 0) (foSome (fC (.int 1))) (foNone)) (fNil)))) (tgTup (tgCons (tgN 1) (tgCons (tgN 2) (tgNil)))) (tYesF) (fOp oLt (fVar 1) (fVar 2)) [1, 2]) (fNil)))
def F_are_ascending : FF := fnC closeV 3 1 B_are_ascending
abbrev s_is_counts : Stmt := topS 13
theorem sc_is_counts : FnScope ["thing"] ["thing"] (defScope s_is_counts) := ⟨rfl, rfl, rfl, by decide +kernel, rfl, by decide +kernel, by decide +kernel⟩
def B_is_counts (a_is_count a_is_length a_is_name : Addr) : FS := sRet (fAndV (fCall (F_is_tuple_of a_is_count a_is_length a_is_name) (fCons (fVar 0) (fCons (fC (.raw (.ref a_is_count))) (fNil)))) (fCall F_are_ascending (fCons (fVar 0) (fNil))))
def F_is_counts (a_is_count a_is_length a_is_name : Addr) : FF := fnC closeV 1 1 (B_is_counts a_is_count a_is_length a_is_name)
abbrev s_is_names : Stmt := topS 14
theorem sc_is_names : FnScope ["thing"] ["thing"] (defScope s_is_names) := ⟨rfl, rfl, rfl, by decide +kernel, rfl, by decide +kernel, by decide +kernel⟩
def B_is_names (a_is_count a_is_length a_is_name : Addr) : FS := sRet (fAndV (fCall (F_is_tuple_of a_is_count a_is_length a_is_name) (fCons (fVar 0) (fCons (fC (.raw (.ref a_is_name))) (fNil)))) (fCall F_are_ascending (fCons (fVar 0) (fNil))))
def F_is_names (a_is_count a_is_length a_is_name : Addr) : FF := fnC closeV 1 1 (B_is_names a_is_count a_is_length a_is_name)
abbrev s_is_names_list : Stmt := topS 15
theorem sc_is_names_list : FnScope ["thing"] ["thing"] (defScope s_is_names_list) := ⟨rfl, rfl, rfl, by decide +kernel, rfl, by decide +kernel, by decide +kernel⟩
def B_is_names_list (a_is_count a_is_length a_is_name : Addr) : FS := sRet (fAndV (fCall (F_is_tuple_of a_is_count a_is_length a_is_name) (fCons (fVar 0) (fCons (fC (.raw (.ref a_is_name))) (fNil)))) (fOp oEqX (fUn oLenSet (fVar 0)) (fCall bLen (fCons (fVar 0) (fNil)))))
def F_is_names_list (a_is_count a_is_length a_is_name : Addr) : FF := fnC closeV 1 1 (B_is_names_list a_is_count a_is_length a_is_name)
abbrev s__law_bag : Stmt := topS 19
theorem sc__law_bag : FnScope ["script", "cell"] ["script"] (defScope s__law_bag) := ⟨rfl, rfl, rfl, by decide +kernel, rfl, by decide +kernel, by decide +kernel⟩
def B__law_bag : FS := sRet (fLstM (fCons (fC (.int 0)) (fCons (fC (.int 1234567891)) (fCons (fC (.int 0)) (fCons (fLc (fIt gSeq (fSl (fVar 0) (foNone) (foSome (fC (.int 63))))) (tgN 1) (tYesF) (fCall bAbs (fCons (fVar 1) (fNil))) [1]) (fNil))))))
def F__law_bag : FF := fnC closeP 2 1 B__law_bag
abbrev s__law_take : Stmt := topS 20
theorem sc__law_take : FnScope ["bag", "many", "first", "second", "cell", "stirred", "value"] ["bag", "many"] (defScope s__law_take) := ⟨rfl, rfl, rfl, by decide +kernel, rfl, by decide +kernel, by decide +kernel⟩
def B__law_take : FS := sCons (sIf (fB (fOp oEqX (fOp oIx (fVar 0) (fC (.int 0))) (fC (.int 0)))) (sCons (sSet 4 (fOp oIx (fOp oAdd (fSl (fOp oIx (fVar 0) (fC (.int 3))) (foSome (fOp oIx (fVar 0) (fC (.int 2)))) (foNone)) (fLst (fCons (fC (.int 0)) (fNil)))) (fC (.int 0)))) (sCons (sAugN (fVar 0) (fC (.int 2)) (oI (fun _ _ => true) fun i j => .int (i + j)) (fC (.int 1))) (sCons (sIf (fB (fOp oGe (fVar 4) (fOp oPow (fC (.int 10)) (fC (.int 18))))) (sSub (fVar 4) (fVar 0) (fC (.int 0))) (sNil)) (sCons (sSet 5 (fOp oAdd (fOp oAdd (fOp oMul (fOp oIx (fVar 0) (fC (.int 1))) (fC (.int 48271))) (fOp oMod (fCall bInt (fCons (fVar 4) (fNil))) (fC (.int 2147483647)))) (fOp oMul (fC (.int 7919)) (fOp oIx (fVar 0) (fC (.int 2)))))) (sSub (fOp oMod (fCall bInt (fCons (fVar 5) (fNil))) (fC (.int 2147483647))) (fVar 0) (fC (.int 1))))))) (sNil)) (sCons (sIf (fB (fOp oGt (fOp oIx (fVar 0) (fC (.int 0))) (fC (.int 0)))) (sCons (sSet 6 (fOp oMod (fCall bInt (fCons (fOp oIx (fVar 0) (fC (.int 0))) (fNil))) (fVar 1))) (sCons (sSub (fOp oDiv (fCall bInt (fCons (fOp oIx (fVar 0) (fC (.int 0))) (fNil))) (fVar 1)) (fVar 0) (fC (.int 0))) (sRet (fVar 6)))) (sNil)) (sCons (sSet 2 (fOp oMod (fCall bInt (fCons (fOp oMul (fOp oAdd (fOp oIx (fVar 0) (fC (.int 1))) (fC (.int 1))) (fC (.int 39373))) (fNil))) (fC (.int 1000000007)))) (sCons (sSet 3 (fOp oMod (fCall bInt (fCons (fOp oMul (fOp oMod (fCall bInt (fCons (fOp oMul (fVar 2) (fVar 2)) (fNil))) (fC (.int 998244353))) (fC (.int 30011))) (fNil))) (fC (.int 998244353)))) (sRet (fOp oMod (fCall bInt (fCons (fOp oDiv (fVar 3) (fC (.int 7))) (fNil))) (fVar 1))))))
def F__law_take : FF := fnC closeV 7 2 B__law_take
abbrev s__law_some : Stmt := topS 21
theorem sc__law_some : FnScope ["bag", "things"] ["bag", "things"] (defScope s__law_some) := ⟨rfl, rfl, rfl, by decide +kernel, rfl, by decide +kernel, by decide +kernel⟩
def B__law_some : FS := sRet (fOp oIx (fVar 1) (fCall F__law_take (fCons (fVar 0) (fCons (fCall bLen (fCons (fVar 1) (fNil))) (fNil)))))
def F__law_some : FF := fnC closeV 2 2 B__law_some
abbrev s__law_alike : Stmt := topS 22
theorem sc__law_alike : FnScope ["found", "due"] ["found", "due"] (defScope s__law_alike) := ⟨rfl, rfl, rfl, by decide +kernel, rfl, by decide +kernel, by decide +kernel⟩
def B__law_alike : FS := sRet (fAndV (fOp oEqX (fCall bRepr (fCons (fVar 0) (fNil))) (fCall bRepr (fCons (fVar 1) (fNil)))) (fOp oEqX (fVar 0) (fVar 1)))
def F__law_alike : FF := fnC closeV 2 2 B__law_alike
abbrev s__law_odds : Stmt := topS 23
theorem sc__law_odds : FnScope ["some"] [] (defScope s__law_odds) := ⟨rfl, rfl, rfl, by decide +kernel, rfl, by decide +kernel, by decide +kernel⟩
def B__law_odds : FS := sCons (sSet 0 (fLst (fCons (fC (.int 0)) (fCons (fC (.int 1)) (fCons (fC (.int 2)) (fCons (fC (.int 9)) (fCons (fC (.int 12)) (fCons (fC (.int 13)) (fCons (fC (.int 20)) (fCons (fC (.int 30)) (fCons (fC (.int 59)) (fCons (fC (.int 60)) (fCons (fC (.int 61)) (fCons (fC (.int 199)) (fCons (fC (.int 200)) (fCons (fC (.int 400)) (fCons (fC (.int 401)) (fCons (fC (.int 999)) (fCons (fC (.int 1000)) (fCons (fUn oNeg (fC (.int 1))) (fCons (fOp oPow (fC (.int 10)) (fC (.int 30))) (fCons (fC (.bl true)) (fCons (fC (.bl false)) (fCons (fC .non) (fCons (fUn oNeg (fC (.int 7))) (fCons (fC (.str "")) (fCons (fC (.str "a")) (fCons (fC (.str "z9")) (fCons (fC (.str "A")) (fCons (fC (.str "9a")) (fNil))))))))))))))))))))))))))))))) (sCons (sSet 0 (fOp oAdd (fVar 0) (fLst (fCons (fC (.str "a_b")) (fCons (fC (.str "abcdefgh")) (fCons (fC (.str "abcdefghi")) (fCons (fC (.str "end")) (fCons (fC (.str "rule")) (fCons (fC (.str "none")) (fCons (fC (.str "put")) (fCons (fC (.str "take")) (fCons (fC (.str "cut")) (fCons (fC (.str "rules")) (fCons (fTup (fNil)) (fCons (fTup (fCons (fC (.int 0)) (fNil))) (fCons (fTup (fCons (fC (.int 1)) (fCons (fC (.int 2)) (fNil)))) (fCons (fTup (fCons (fC (.int 2)) (fCons (fC (.int 1)) (fNil)))) (fCons (fTup (fCons (fC (.int 1)) (fCons (fC (.int 1)) (fNil)))) (fCons (fTup (fCons (fC (.int 12)) (fNil))) (fCons (fTup (fCons (fC (.int 13)) (fNil))) (fNil))))))))))))))))))))) (sRet (fOp oAdd (fVar 0) (fLst (fCons (fTup (fCons (fC (.str "a")) (fCons (fC (.str "b")) (fNil)))) (fCons (fTup (fCons (fC (.str "b")) (fCons (fC (.str "a")) (fNil)))) (fCons (fTup (fCons (fC (.str "a")) (fCons (fC (.str "a")) (fNil)))) (fCons (fTup (fCons (fC (.bl true)) (fNil))) (fCons (fLst (fNil)) (fCons (fLst (fCons (fC (.int 1)) (fCons (fC (.int 2)) (fNil)))) (fCons (fDic0) (fCons (fTup (fCons (fTup (fNil)) (fNil))) (fNil)))))))))))))
def F__law_odds : FF := fnC closeV 1 0 B__law_odds
abbrev s__law_whole : Stmt := topS 24
theorem sc__law_whole : FnScope ["thing"] ["thing"] (defScope s__law_whole) := ⟨rfl, rfl, rfl, by decide +kernel, rfl, by decide +kernel, by decide +kernel⟩
def B__law_whole : FS := sRet (fAndV (fCall bIsi (fCons (fVar 0) (fCons (fC (.raw (.ty "int"))) (fNil)))) (fNotV (fCall bIsi (fCons (fVar 0) (fCons (fC (.raw (.ty "bool"))) (fNil))))))
def F__law_whole : FF := fnC closeV 1 1 B__law_whole
abbrev s__law_is_in : Stmt := topS 25
theorem sc__law_is_in : FnScope ["thing", "least", "most"] ["thing", "least", "most"] (defScope s__law_is_in) := ⟨rfl, rfl, rfl, by decide +kernel, rfl, by decide +kernel, by decide +kernel⟩
def B__law_is_in : FS := sRet (fAndV (fCall F__law_whole (fCons (fVar 0) (fNil))) (fChain oLe oLe (fVar 1) (fVar 0) (fVar 2)))
def F__law_is_in : FF := fnC closeV 3 3 B__law_is_in
abbrev s__law_is_called : Stmt := topS 26
theorem sc__law_is_called : FnScope ["thing", "sign"] ["thing"] (defScope s__law_is_called) := ⟨rfl, rfl, rfl, by decide +kernel, rfl, by decide +kernel, by decide +kernel⟩
def B__law_is_called : FS := sCons (sIf (fOr (fNot (fTr (fCall bIsi (fCons (fVar 0) (fCons (fC (.raw (.ty "str"))) (fNil)))))) (fOr (fNot (fB (fChain oLe oLe (fC (.int 1)) (fCall bLen (fCons (fVar 0) (fNil))) (fC (.int 8))))) (fB (fOp (oInN true) (fOp oIx (fVar 0) (fC (.int 0))) (fC (.str "abcdefghijklmnopqrstuvwxyz")))))) (sRet (fC (.bl false))) (sNil)) (sCons (sIf (fB (fOp oNeX (fLc (fIt gSeq (fVar 0)) (tgN 1) (fB (fOp (oInN true) (fVar 1) (fC (.str "abcdefghijklmnopqrstuvwxyz0123456789")))) (fVar 1) [1]) (fLst (fNil)))) (sRet (fC (.bl false))) (sNil)) (sRet (fOp (oInN true) (fVar 0) (fTup (fCons (fC (.str "above")) (fCons (fC (.str "end")) (fCons (fC (.str "entries")) (fCons (fC (.str "least")) (fCons (fC (.str "lengths")) (fCons (fC (.str "none")) (fCons (fC (.str "of")) (fCons (fC (.str "reach")) (fCons (fC (.str "room")) (fCons (fC (.str "rule")) (fCons (fC (.str "shelf")) (fCons (fC (.str "slots")) (fNil)))))))))))))))))
def F__law_is_called : FF := fnC closeV 2 1 B__law_is_called
abbrev s__law_rises : Stmt := topS 27
theorem sc__law_rises : FnScope ["things", "k"] ["things"] (defScope s__law_rises) := ⟨rfl, rfl, rfl, by decide +kernel, rfl, by decide +kernel, by decide +kernel⟩
def B__law_rises : FS := sRet (fOp oEqX (fLc (fRng2 (fC (.int 1)) (fCall bLen (fCons (fVar 0) (fNil)))) (tgN 1) (fNot (fB (fOp oLt (fOp oIx (fVar 0) (fOp oSub (fVar 1) (fC (.int 1)))) (fOp oIx (fVar 0) (fVar 1))))) (fVar 1) [1]) (fLst (fNil)))
def F__law_rises : FF := fnC closeV 2 1 B__law_rises
abbrev s_law : Stmt := topS 28
theorem sc_law : FnScope ["script", "bag", "words", "signs", "lap", "name", "thing", "parts", "names", "due", "told", "least", "most", "count", "numbers", "k", "one"] ["script"] (defScope s_law) := ⟨rfl, rfl, rfl, by decide +kernel, rfl, by decide +kernel, by decide +kernel⟩
def B_law (a_is_count a_is_length a_is_name : Addr) : FS := sCons (sSet 1 (fCall F__law_bag (fCons (fVar 0) (fNil)))) (sCons (sSet 2 (fLst (fCons (fC (.str "above")) (fCons (fC (.str "end")) (fCons (fC (.str "entries")) (fCons (fC (.str "least")) (fCons (fC (.str "lengths")) (fCons (fC (.str "none")) (fCons (fC (.str "of")) (fCons (fC (.str "reach")) (fCons (fC (.str "room")) (fCons (fC (.str "rule")) (fCons (fC (.str "shelf")) (fCons (fC (.str "slots")) (fCons (fC (.str "x")) (fCons (fC (.str "ends")) (fCons (fC (.str "rules")) (fCons (fC (.str "of1")) (fNil))))))))))))))))))) (sCons (sSet 3 (fC (.str "abyz019AZ_ \n"))) (sCons (sFor (fRng1 (fC (.int 30))) (tgN 4) (sCons (sSet 5 (fOp mJoin (fC (.str "")) (fLc (fRng1 (fCall F__law_take (fCons (fVar 1) (fCons (fC (.int 11)) (fNil))))) (tgN 15) (tYesF) (fOp oIx (fVar 3) (fCall F__law_take (fCons (fVar 1) (fCons (fCall bLen (fCons (fVar 3) (fNil))) (fNil))))) [15]))) (sCons (sSet 6 (fCall F__law_some (fCons (fVar 1) (fCons (fLst (fCons (fCall F__law_some (fCons (fVar 1) (fCons (fCall F__law_odds fNil) (fNil)))) (fCons (fVar 5) (fCons (fCall F__law_some (fCons (fVar 1) (fCons (fVar 2) (fNil)))) (fCons (fCall bTuple (fCons (fLc (fRng1 (fCall F__law_take (fCons (fVar 1) (fCons (fC (.int 4)) (fNil))))) (tgN 15) (tYesF) (fCall F__law_some (fCons (fVar 1) (fCons (fCall F__law_odds fNil) (fNil)))) [15]) (fNil))) (fNil)))))) (fNil))))) (sCons (sSet 6 (fCall F__law_some (fCons (fVar 1) (fCons (fLst (fCons (fVar 6) (fCons (fVar 6) (fCons (fCall bTuple (fCons (fCall bSorted (fCons (fLc (fRng1 (fCall F__law_take (fCons (fVar 1) (fCons (fC (.int 4)) (fNil))))) (tgN 15) (tYesF) (fCall F__law_take (fCons (fVar 1) (fCons (fC (.int 9)) (fNil)))) [15]) (fNil))) (fNil))) (fCons (fCall bTuple (fCons (fCall bSorted (fCons (fLc (fRng1 (fCall F__law_take (fCons (fVar 1) (fCons (fC (.int 4)) (fNil))))) (tgN 15) (tYesF) (fCall F__law_some (fCons (fVar 1) (fCons (fVar 2) (fNil)))) [15]) (fNil))) (fNil))) (fNil)))))) (fNil))))) (sCons (sSet 7 (fIf (fTr (fCall bIsi (fCons (fVar 6) (fCons (fC (.raw (.ty "tuple"))) (fNil))))) (fVar 6) (fTup (fNil)))) (sCons (sPar 11 12 (fCons (fOp oSub (fCall F__law_take (fCons (fVar 1) (fCons (fC (.int 60)) (fNil)))) (fC (.int 5))) (fCons (fCall F__law_take (fCons (fVar 1) (fCons (fC (.int 70)) (fNil)))) (fNil)))) (sCons (sPar 13 14 (fCons (fAndV (fCall F__law_whole (fCons (fVar 6) (fNil))) (fOp oGe (fVar 6) (fC (.int 0)))) (fCons (fAndV (fCall bIsi (fCons (fVar 6) (fCons (fC (.raw (.ty "tuple"))) (fNil)))) (fOp oEqX (fLc (fIt gSeq (fVar 7)) (tgN 16) (fOr (fNot (fTr (fCall F__law_whole (fCons (fVar 16) (fNil))))) (fB (fOp oLt (fVar 16) (fC (.int 0))))) (fVar 16) [16]) (fLst (fNil)))) (fNil)))) (sCons (sSet 8 (fAndV (fCall bIsi (fCons (fVar 6) (fCons (fC (.raw (.ty "tuple"))) (fNil)))) (fOp oEqX (fLc (fIt gSeq (fVar 7)) (tgN 16) (fNot (fTr (fCall F__law_is_called (fCons (fVar 16) (fNil))))) (fVar 16) [16]) (fLst (fNil))))) (sCons (sSet 9 (fLst (fCons (fCall F__law_whole (fCons (fVar 6) (fNil))) (fCons (fVar 13) (fCons (fCall F__law_is_called (fCons (fVar 6) (fNil))) (fCons (fAndV (fVar 14) (fCall F__law_rises (fCons (fVar 7) (fNil)))) (fCons (fAndV (fVar 8) (fCall F__law_rises (fCons (fVar 7) (fNil)))) (fCons (fAndV (fVar 8) (fOp oEqX (fUn oLenSet (fVar 7)) (fCall bLen (fCons (fVar 7) (fNil))))) (fNil))))))))) (sCons (sSet 10 (fLst (fCons (fCall F_is_integer (fCons (fVar 6) (fNil))) (fCons (fCall F_is_count (fCons (fVar 6) (fNil))) (fCons (fCall F_is_name (fCons (fVar 6) (fNil))) (fCons (fCall (F_is_counts a_is_count a_is_length a_is_name) (fCons (fVar 6) (fNil))) (fCons (fCall (F_is_names a_is_count a_is_length a_is_name) (fCons (fVar 6) (fNil))) (fCons (fCall (F_is_names_list a_is_count a_is_length a_is_name) (fCons (fVar 6) (fNil))) (fNil))))))))) (sCons (sIf (fNot (fTr (fCall F__law_alike (fCons (fVar 10) (fCons (fVar 9) (fNil)))))) (sRet (fC (.bl false))) (sNil)) (sCons (sIf (fNot (fTr (fCall F__law_alike (fCons (fLst (fCons (fCall F_is_thing (fCons (fVar 6) (fNil))) (fCons (fCall F_is_length (fCons (fVar 6) (fNil))) (fCons (fCall F_is_between (fCons (fVar 6) (fCons (fVar 11) (fCons (fVar 12) (fNil))))) (fNil))))) (fCons (fLst (fCons (fCall F__law_is_in (fCons (fVar 6) (fCons (fC (.int 0)) (fCons (fC (.int 999)) (fNil))))) (fCons (fCall F__law_is_in (fCons (fVar 6) (fCons (fC (.int 1)) (fCons (fC (.int 12)) (fNil))))) (fCons (fCall F__law_is_in (fCons (fVar 6) (fCons (fVar 11) (fCons (fVar 12) (fNil))))) (fNil))))) (fNil)))))) (sRet (fC (.bl false))) (sNil)) (sIf (fNot (fTr (fCall F__law_alike (fCons (fLst (fCons (fCall (F_is_tuple_of a_is_count a_is_length a_is_name) (fCons (fVar 6) (fCons (fC (.raw (.ref a_is_count))) (fNil)))) (fCons (fCall (F_is_tuple_of a_is_count a_is_length a_is_name) (fCons (fVar 6) (fCons (fC (.raw (.ref a_is_name))) (fNil)))) (fCons (fCall (F_is_tuple_of a_is_count a_is_length a_is_name) (fCons (fVar 6) (fCons (fC (.raw (.ref a_is_length))) (fNil)))) (fNil))))) (fCons (fLst (fCons (fVar 14) (fCons (fVar 8) (fCons (fAndV (fVar 14) (fOp oEqX (fLc (fIt gSeq (fVar 7)) (tgN 16) (fNot (fB (fChain oLe oLe (fC (.int 1)) (fVar 16) (fC (.int 12))))) (fVar 16) [16]) (fLst (fNil)))) (fNil))))) (fNil)))))) (sRet (fC (.bl false))) (sNil)))))))))))))) (sRet (fC (.bl true))))))
def F_law (a_is_count a_is_length a_is_name : Addr) : FF := fnC closeV 17 1 (B_law a_is_count a_is_length a_is_name)
section
variable {P : Program} {w : World} {K : PySem.W.Frag} {mg : Str → Option Value} {base : Heap}
theorem g_is_integer {f : Addr} {fd : FuncData} (T : Tp K mg) (F0 : Fun K "is_integer" "is_integer" s_is_integer f fd) : FnG P w K mg base 1 f fd ["thing"] F_is_integer := by
  refine fnG_ofC closer_V F0 sc_is_integer rfl rfl fun cdv A out s H hu => ?_
  exact dss_one (ds_ret (de_and (de_isi T.z_isinstance (da_cons (de_var (i := 0)) (da_cons (de_gty T.z_int boot_int) (da_nil)))) (de_one (de_not (de_isi T.z_isinstance (da_cons (de_var (i := 0)) (da_cons (de_gty T.z_bool boot_bool) (da_nil))))))))
theorem g_is_count {f : Addr} {fd : FuncData} (T : Tp K mg) (F0 : Fun K "is_count" "is_count" s_is_count f fd) {f_is_integer : Addr} (D_is_integer : Def P w K mg base 1 "is_integer" f_is_integer F_is_integer) : FnG P w K mg base 2 f fd ["thing"] F_is_count := by
  refine fnG_ofC closer_V F0 sc_is_count rfl rfl fun cdv A out s H hu => ?_
  exact dss_one (ds_ret (de_and (de_call (D_is_integer.mono (by decide)) hu (da_cons (de_var (i := 0)) (da_nil))) (de_one (de_cmp op_ge rd_ge (de_var (i := 0)) (de_int)))))
theorem g_is_between {f : Addr} {fd : FuncData} (T : Tp K mg) (F0 : Fun K "is_between" "is_between" s_is_between f fd) {f_is_integer : Addr} (D_is_integer : Def P w K mg base 1 "is_integer" f_is_integer F_is_integer) : FnG P w K mg base 2 f fd ["thing", "least", "most"] F_is_between := by
  refine fnG_ofC closer_V F0 sc_is_between rfl rfl fun cdv A out s H hu => ?_
  exact dss_one (ds_ret (de_and (de_call (D_is_integer.mono (by decide)) hu (da_cons (de_var (i := 0)) (da_nil))) (de_one (de_chain op_le op_le rd_le rd_le (de_var (i := 1)) (de_var (i := 0)) (de_var (i := 2))))))
theorem g_is_name {f : Addr} {fd : FuncData} (T : Tp K mg) (F0 : Fun K "is_name" "is_name" s_is_name f fd) : FnG P w K mg base 1 f fd ["thing"] F_is_name := by
  refine fnG_ofC closer_V F0 sc_is_name rfl rfl fun cdv A out s H hu => ?_
  exact dss_cons (ds_if (dt_w (dw_or (dt_not (dt_truth (de_isi T.z_isinstance (da_cons (de_var (i := 0)) (da_cons (de_gty T.z_str boot_str) (da_nil)))))) (dw_or (dt_not (dt_chain op_le op_le rd_le rd_le (de_int) (de_len T.z_len (da_cons (de_var (i := 0)) (da_nil))) (de_gint T.c_MOST_SIGNS))) (dw_or1 (dt_cmp opr_notin (rd_inN true) (de_ix (de_var (i := 0)) (de_int)) (de_gstr T.c_LETTERS)))))) (dss_one (ds_ret (de_bl))) (dss_nil))
    (dss_one (ds_ret (de_and (de_all T.z_all (da_cons (de_lc (is := [1]) (own := [("sign", 1)]) sc_is_name.nd (di_seq (de_var (i := 0))) (blkOk_by (own := [("sign", 1)]) (N := ["thing", "sign"]) (sc := defScope s_is_name) (by decide +kernel)) (fun b1 => dg_name (i := 1) sc_is_name.nd) (fun b1 => dts_nil) (fun b1 => de_cmp opr_in (rd_inN false) (de_var (i := 1)) (de_add (de_gstr T.c_LETTERS) (de_gstr T.c_DIGITS)))) (da_nil))) (de_one (de_cmp opr_notin (rd_inN true) (de_var (i := 0)) (de_gtup T.c_RESERVED))))))
theorem g_is_thing {f : Addr} {fd : FuncData} (T : Tp K mg) (F0 : Fun K "is_thing" "is_thing" s_is_thing f fd) {f_is_between : Addr} (D_is_between : Def P w K mg base 2 "is_between" f_is_between F_is_between) : FnG P w K mg base 3 f fd ["thing"] F_is_thing := by
  refine fnG_ofC closer_V F0 sc_is_thing rfl rfl fun cdv A out s H hu => ?_
  exact dss_one (ds_ret (de_call (D_is_between.mono (by decide)) hu (da_cons (de_var (i := 0)) (da_cons (de_int) (da_cons (de_gint T.c_MOST_THING) (da_nil))))))
theorem g_is_length {f : Addr} {fd : FuncData} (T : Tp K mg) (F0 : Fun K "is_length" "is_length" s_is_length f fd) {f_is_between : Addr} (D_is_between : Def P w K mg base 2 "is_between" f_is_between F_is_between) : FnG P w K mg base 3 f fd ["thing"] F_is_length := by
  refine fnG_ofC closer_V F0 sc_is_length rfl rfl fun cdv A out s H hu => ?_
  exact dss_one (ds_ret (de_call (D_is_between.mono (by decide)) hu (da_cons (de_var (i := 0)) (da_cons (de_int) (da_cons (de_gint T.c_MOST_LENGTH) (da_nil))))))
theorem g_is_tuple_of {a_is_count a_is_length a_is_name : Addr} {f : Addr} {fd : FuncData} (T : Tp K mg) (F0 : Fun K "is_tuple_of" "is_tuple_of" s_is_tuple_of f fd) (m_is_count : mg "is_count" = some (.ref a_is_count)) (m_is_name : mg "is_name" = some (.ref a_is_name)) (m_is_length : mg "is_length" = some (.ref a_is_length)) (D_is_count : Def P w K mg base 2 "is_count" a_is_count F_is_count) (D_is_name : Def P w K mg base 1 "is_name" a_is_name F_is_name) (D_is_length : Def P w K mg base 3 "is_length" a_is_length F_is_length) : FnG P w K mg base 4 f fd ["thing", "is_item"] (F_is_tuple_of a_is_count a_is_length a_is_name) := by
  refine fnG_ofC closer_V F0 sc_is_tuple_of rfl rfl fun cdv A out s H hu => ?_
  exact dss_one (ds_ret (de_and (de_isi T.z_isinstance (da_cons (de_var (i := 0)) (da_cons (de_gty T.z_tuple boot_tuple) (da_nil)))) (de_one (de_all T.z_all (da_cons (de_lc (is := [2]) (own := [("item", 2)]) sc_is_tuple_of.nd (di_seq (de_var (i := 0))) (blkOk_by (own := [("item", 2)]) (N := ["thing", "is_item", "item"]) (sc := defScope s_is_tuple_of) (by decide +kernel)) (fun b1 => dg_name (i := 2) sc_is_tuple_of.nd) (fun b1 => dts_nil) (fun b1 => de_callV (tabL_ok (by simp only [List.mem_cons, List.not_mem_nil, or_false, forall_eq_or_imp, forall_eq]; exact ⟨(def_tab (D_is_count.mono (by decide))), (def_tab (D_is_name.mono (by decide))), (def_tab (D_is_length.mono (by decide)))⟩)) (Up.blk hu _ b1) (da_cons (de_var (i := 2)) (da_nil)))) (da_nil))))))
theorem g_are_ascending {f : Addr} {fd : FuncData} (T : Tp K mg) (F0 : Fun K "are_ascending" "are_ascending" s_are_ascending f fd) : FnG P w K mg base 1 f fd ["things"] F_are_ascending := by
  refine fnG_ofC closer_V F0 sc_are_ascending rfl rfl fun cdv A out s H hu => ?_
  exact dss_one (ds_ret (de_all T.z_all (da_cons (de_lc (is := [1, 2]) (own := [("one", 1), ("other", 2)]) sc_are_ascending.nd (di_zip T.z_zip (da_cons (de_var (i := 0)) (da_cons (de_sl (de_var (i := 0)) (do_some (de_int)) (do_none)) (da_nil)))) (blkOk_by (own := [("one", 1), ("other", 2)]) (N := ["things", "one", "other"]) (sc := defScope s_are_ascending) (by decide +kernel)) (fun b1 => dg_tup (dgs_cons (dg_name (i := 1) sc_are_ascending.nd) (dgs_cons (dg_name (i := 2) sc_are_ascending.nd) (dgs_nil)))) (fun b1 => dts_nil) (fun b1 => de_cmp opr_lt rd_cmp2 (de_var (i := 1)) (de_var (i := 2)))) (da_nil))))
theorem g_is_counts {a_is_count a_is_length a_is_name : Addr} {f : Addr} {fd : FuncData} (T : Tp K mg) (F0 : Fun K "is_counts" "is_counts" s_is_counts f fd) (m_is_count : mg "is_count" = some (.ref a_is_count)) {f_is_tuple_of : Addr} (D_is_tuple_of : Def P w K mg base 4 "is_tuple_of" f_is_tuple_of (F_is_tuple_of a_is_count a_is_length a_is_name)) {f_are_ascending : Addr} (D_are_ascending : Def P w K mg base 1 "are_ascending" f_are_ascending F_are_ascending) : FnG P w K mg base 5 f fd ["thing"] (F_is_counts a_is_count a_is_length a_is_name) := by
  refine fnG_ofC closer_V F0 sc_is_counts rfl rfl fun cdv A out s H hu => ?_
  exact dss_one (ds_ret (de_and (de_call (D_is_tuple_of.mono (by decide)) hu (da_cons (de_var (i := 0)) (da_cons (de_gfn m_is_count) (da_nil)))) (de_one (de_call (D_are_ascending.mono (by decide)) hu (da_cons (de_var (i := 0)) (da_nil))))))
theorem g_is_names {a_is_count a_is_length a_is_name : Addr} {f : Addr} {fd : FuncData} (T : Tp K mg) (F0 : Fun K "is_names" "is_names" s_is_names f fd) (m_is_name : mg "is_name" = some (.ref a_is_name)) {f_is_tuple_of : Addr} (D_is_tuple_of : Def P w K mg base 4 "is_tuple_of" f_is_tuple_of (F_is_tuple_of a_is_count a_is_length a_is_name)) {f_are_ascending : Addr} (D_are_ascending : Def P w K mg base 1 "are_ascending" f_are_ascending F_are_ascending) : FnG P w K mg base 5 f fd ["thing"] (F_is_names a_is_count a_is_length a_is_name) := by
  refine fnG_ofC closer_V F0 sc_is_names rfl rfl fun cdv A out s H hu => ?_
  exact dss_one (ds_ret (de_and (de_call (D_is_tuple_of.mono (by decide)) hu (da_cons (de_var (i := 0)) (da_cons (de_gfn m_is_name) (da_nil)))) (de_one (de_call (D_are_ascending.mono (by decide)) hu (da_cons (de_var (i := 0)) (da_nil))))))
theorem g_is_names_list {a_is_count a_is_length a_is_name : Addr} {f : Addr} {fd : FuncData} (T : Tp K mg) (F0 : Fun K "is_names_list" "is_names_list" s_is_names_list f fd) (m_is_name : mg "is_name" = some (.ref a_is_name)) {f_is_tuple_of : Addr} (D_is_tuple_of : Def P w K mg base 4 "is_tuple_of" f_is_tuple_of (F_is_tuple_of a_is_count a_is_length a_is_name)) : FnG P w K mg base 5 f fd ["thing"] (F_is_names_list a_is_count a_is_length a_is_name) := by
  refine fnG_ofC closer_V F0 sc_is_names_list rfl rfl fun cdv A out s H hu => ?_
  exact dss_one (ds_ret (de_and (de_call (D_is_tuple_of.mono (by decide)) hu (da_cons (de_var (i := 0)) (da_cons (de_gfn m_is_name) (da_nil)))) (de_one (de_cmp (op_eqX hu.room.units) rd_eqX (de_lenSet T.z_len T.z_set (de_var (i := 0))) (de_len T.z_len (da_cons (de_var (i := 0)) (da_nil)))))))
theorem g__law_bag {f : Addr} {fd : FuncData} (T : Tp K mg) (F0 : Fun K "_law_bag" "_law_bag" s__law_bag f fd) : FnG P w K mg base 1 f fd ["script"] F__law_bag := by
  refine fnG_ofC closer_P F0 sc__law_bag rfl rfl fun cdv A out s H hu => ?_
  exact dss_one (ds_ret (de_lstM (da_cons (de_int) (da_cons (de_int) (da_cons (de_int) (da_cons (de_lc (is := [1]) (own := [("cell", 1)]) sc__law_bag.nd (di_seq (de_sl (de_var (i := 0)) (do_none) (do_some (de_int)))) (blkOk_by (own := [("cell", 1)]) (N := ["script", "cell"]) (sc := defScope s__law_bag) (by decide +kernel)) (fun b1 => dg_name (i := 1) sc__law_bag.nd) (fun b1 => dts_nil) (fun b1 => de_abs T.z_abs (da_cons (de_var (i := 1)) (da_nil)))) (da_nil)))))))
theorem g__law_take {f : Addr} {fd : FuncData} (T : Tp K mg) (F0 : Fun K "_law_take" "_law_take" s__law_take f fd) : FnG P w K mg base 1 f fd ["bag", "many"] F__law_take := by
  refine fnG_ofC closer_V F0 sc__law_take rfl rfl fun cdv A out s H hu => ?_
  exact dss_cons (ds_if (dt_cmp (op_eqX hu.room.units) rd_eqX (de_ix (de_var (i := 0)) (de_int)) (de_int)) (dss_cons (ds_set (i := 4) sc__law_take.nd (de_ix (de_add (de_sl (de_ix (de_var (i := 0)) (de_int)) (do_some (de_ix (de_var (i := 0)) (de_int))) (do_none)) (de_lst (da_cons (de_int) (da_nil)))) (de_int)))
    (dss_cons (ds_augN iop_add rd_iadd (de_var (i := 0)) (de_int) (de_int))
    (dss_cons (ds_if (dt_cmp op_ge rd_ge (de_var (i := 4)) (de_pow (de_int) (de_int))) (dss_one (ds_sub (de_var (i := 4)) (de_var (i := 0)) (de_int))) (dss_nil))
    (dss_cons (ds_set (i := 5) sc__law_take.nd (de_add (de_add (de_mul (de_ix (de_var (i := 0)) (de_int)) (de_int)) (de_mod (de_intC T.z_int (da_cons (de_var (i := 4)) (da_nil))) (de_int))) (de_mul (de_int) (de_ix (de_var (i := 0)) (de_int)))))
    (dss_one (ds_sub (de_mod (de_intC T.z_int (da_cons (de_var (i := 5)) (da_nil))) (de_int)) (de_var (i := 0)) (de_int))))))) (dss_nil))
    (dss_cons (ds_if (dt_cmp op_gt rd_gt (de_ix (de_var (i := 0)) (de_int)) (de_int)) (dss_cons (ds_set (i := 6) sc__law_take.nd (de_mod (de_intC T.z_int (da_cons (de_ix (de_var (i := 0)) (de_int)) (da_nil))) (de_var (i := 1))))
    (dss_cons (ds_sub (de_div (de_intC T.z_int (da_cons (de_ix (de_var (i := 0)) (de_int)) (da_nil))) (de_var (i := 1))) (de_var (i := 0)) (de_int))
    (dss_one (ds_ret (de_var (i := 6)))))) (dss_nil))
    (dss_cons (ds_set (i := 2) sc__law_take.nd (de_mod (de_intC T.z_int (da_cons (de_mul (de_add (de_ix (de_var (i := 0)) (de_int)) (de_int)) (de_int)) (da_nil))) (de_int)))
    (dss_cons (ds_set (i := 3) sc__law_take.nd (de_mod (de_intC T.z_int (da_cons (de_mul (de_mod (de_intC T.z_int (da_cons (de_mul (de_var (i := 2)) (de_var (i := 2))) (da_nil))) (de_int)) (de_int)) (da_nil))) (de_int)))
    (dss_one (ds_ret (de_mod (de_intC T.z_int (da_cons (de_div (de_var (i := 3)) (de_int)) (da_nil))) (de_var (i := 1))))))))
theorem g__law_some {f : Addr} {fd : FuncData} (T : Tp K mg) (F0 : Fun K "_law_some" "_law_some" s__law_some f fd) {f__law_take : Addr} (D__law_take : Def P w K mg base 1 "_law_take" f__law_take F__law_take) : FnG P w K mg base 2 f fd ["bag", "things"] F__law_some := by
  refine fnG_ofC closer_V F0 sc__law_some rfl rfl fun cdv A out s H hu => ?_
  exact dss_one (ds_ret (de_ix (de_var (i := 1)) (de_call (D__law_take.mono (by decide)) hu (da_cons (de_var (i := 0)) (da_cons (de_len T.z_len (da_cons (de_var (i := 1)) (da_nil))) (da_nil))))))
theorem g__law_alike {f : Addr} {fd : FuncData} (T : Tp K mg) (F0 : Fun K "_law_alike" "_law_alike" s__law_alike f fd) : FnG P w K mg base 1 f fd ["found", "due"] F__law_alike := by
  refine fnG_ofC closer_V F0 sc__law_alike rfl rfl fun cdv A out s H hu => ?_
  exact dss_one (ds_ret (de_and (de_cmp (op_eqX hu.room.units) rd_eqX (de_repr hu T.z_repr (da_cons (de_var (i := 0)) (da_nil))) (de_repr hu T.z_repr (da_cons (de_var (i := 1)) (da_nil)))) (de_one (de_cmp (op_eqX hu.room.units) rd_eqX (de_var (i := 0)) (de_var (i := 1))))))
theorem g__law_odds {f : Addr} {fd : FuncData} (T : Tp K mg) (F0 : Fun K "_law_odds" "_law_odds" s__law_odds f fd) : FnG P w K mg base 1 f fd [] F__law_odds := by
  refine fnG_ofC closer_V F0 sc__law_odds rfl rfl fun cdv A out s H hu => ?_
  exact dss_cons (ds_set (i := 0) sc__law_odds.nd (de_lst (da_cons (de_int) (da_cons (de_int) (da_cons (de_int) (da_cons (de_int) (da_cons (de_int) (da_cons (de_int) (da_cons (de_int) (da_cons (de_int) (da_cons (de_int) (da_cons (de_int) (da_cons (de_int) (da_cons (de_int) (da_cons (de_int) (da_cons (de_int) (da_cons (de_int) (da_cons (de_int) (da_cons (de_int) (da_cons (de_neg (de_int)) (da_cons (de_pow (de_int) (de_int)) (da_cons (de_bl) (da_cons (de_bl) (da_cons (de_non) (da_cons (de_neg (de_int)) (da_cons (de_str) (da_cons (de_str) (da_cons (de_str) (da_cons (de_str) (da_cons (de_str) (da_nil)))))))))))))))))))))))))))))))
    (dss_cons (ds_set (i := 0) sc__law_odds.nd (de_add (de_var (i := 0)) (de_lst (da_cons (de_str) (da_cons (de_str) (da_cons (de_str) (da_cons (de_str) (da_cons (de_str) (da_cons (de_str) (da_cons (de_str) (da_cons (de_str) (da_cons (de_str) (da_cons (de_str) (da_cons (de_tup (da_nil)) (da_cons (de_tup (da_cons (de_int) (da_nil))) (da_cons (de_tup (da_cons (de_int) (da_cons (de_int) (da_nil)))) (da_cons (de_tup (da_cons (de_int) (da_cons (de_int) (da_nil)))) (da_cons (de_tup (da_cons (de_int) (da_cons (de_int) (da_nil)))) (da_cons (de_tup (da_cons (de_int) (da_nil))) (da_cons (de_tup (da_cons (de_int) (da_nil))) (da_nil)))))))))))))))))))))
    (dss_one (ds_ret (de_add (de_var (i := 0)) (de_lst (da_cons (de_tup (da_cons (de_str) (da_cons (de_str) (da_nil)))) (da_cons (de_tup (da_cons (de_str) (da_cons (de_str) (da_nil)))) (da_cons (de_tup (da_cons (de_str) (da_cons (de_str) (da_nil)))) (da_cons (de_tup (da_cons (de_bl) (da_nil))) (da_cons (de_lst (da_nil)) (da_cons (de_lst (da_cons (de_int) (da_cons (de_int) (da_nil)))) (da_cons (de_dic0) (da_cons (de_tup (da_cons (de_tup (da_nil)) (da_nil))) (da_nil))))))))))))))
theorem g__law_whole {f : Addr} {fd : FuncData} (T : Tp K mg) (F0 : Fun K "_law_whole" "_law_whole" s__law_whole f fd) : FnG P w K mg base 1 f fd ["thing"] F__law_whole := by
  refine fnG_ofC closer_V F0 sc__law_whole rfl rfl fun cdv A out s H hu => ?_
  exact dss_one (ds_ret (de_and (de_isi T.z_isinstance (da_cons (de_var (i := 0)) (da_cons (de_gty T.z_int boot_int) (da_nil)))) (de_one (de_not (de_isi T.z_isinstance (da_cons (de_var (i := 0)) (da_cons (de_gty T.z_bool boot_bool) (da_nil))))))))
theorem g__law_is_in {f : Addr} {fd : FuncData} (T : Tp K mg) (F0 : Fun K "_law_is_in" "_law_is_in" s__law_is_in f fd) {f__law_whole : Addr} (D__law_whole : Def P w K mg base 1 "_law_whole" f__law_whole F__law_whole) : FnG P w K mg base 2 f fd ["thing", "least", "most"] F__law_is_in := by
  refine fnG_ofC closer_V F0 sc__law_is_in rfl rfl fun cdv A out s H hu => ?_
  exact dss_one (ds_ret (de_and (de_call (D__law_whole.mono (by decide)) hu (da_cons (de_var (i := 0)) (da_nil))) (de_one (de_chain op_le op_le rd_le rd_le (de_var (i := 1)) (de_var (i := 0)) (de_var (i := 2))))))
theorem g__law_is_called {f : Addr} {fd : FuncData} (T : Tp K mg) (F0 : Fun K "_law_is_called" "_law_is_called" s__law_is_called f fd) : FnG P w K mg base 1 f fd ["thing"] F__law_is_called := by
  refine fnG_ofC closer_V F0 sc__law_is_called rfl rfl fun cdv A out s H hu => ?_
  exact dss_cons (ds_if (dt_w (dw_or (dt_not (dt_truth (de_isi T.z_isinstance (da_cons (de_var (i := 0)) (da_cons (de_gty T.z_str boot_str) (da_nil)))))) (dw_or (dt_not (dt_chain op_le op_le rd_le rd_le (de_int) (de_len T.z_len (da_cons (de_var (i := 0)) (da_nil))) (de_int))) (dw_or1 (dt_cmp opr_notin (rd_inN true) (de_ix (de_var (i := 0)) (de_int)) (de_str)))))) (dss_one (ds_ret (de_bl))) (dss_nil))
    (dss_cons (ds_if (dt_cmp (op_neX hu.room.units) rd_neX (de_lc (is := [1]) (own := [("sign", 1)]) sc__law_is_called.nd (di_seq (de_var (i := 0))) (blkOk_by (own := [("sign", 1)]) (N := ["thing", "sign"]) (sc := defScope s__law_is_called) (by decide +kernel)) (fun b1 => dg_name (i := 1) sc__law_is_called.nd) (fun b1 => dts_one (dt_cmp opr_notin (rd_inN true) (de_var (i := 1)) (de_str))) (fun b1 => de_var (i := 1))) (de_lst (da_nil))) (dss_one (ds_ret (de_bl))) (dss_nil))
    (dss_one (ds_ret (de_cmp opr_notin (rd_inN true) (de_var (i := 0)) (de_tup (da_cons (de_str) (da_cons (de_str) (da_cons (de_str) (da_cons (de_str) (da_cons (de_str) (da_cons (de_str) (da_cons (de_str) (da_cons (de_str) (da_cons (de_str) (da_cons (de_str) (da_cons (de_str) (da_cons (de_str) (da_nil))))))))))))))))))
theorem g__law_rises {f : Addr} {fd : FuncData} (T : Tp K mg) (F0 : Fun K "_law_rises" "_law_rises" s__law_rises f fd) : FnG P w K mg base 1 f fd ["things"] F__law_rises := by
  refine fnG_ofC closer_V F0 sc__law_rises rfl rfl fun cdv A out s H hu => ?_
  exact dss_one (ds_ret (de_cmp (op_eqX hu.room.units) rd_eqX (de_lc (is := [1]) (own := [("k", 1)]) sc__law_rises.nd (di_rng2 T.z_range (de_int) (de_len T.z_len (da_cons (de_var (i := 0)) (da_nil)))) (blkOk_by (own := [("k", 1)]) (N := ["things", "k"]) (sc := defScope s__law_rises) (by decide +kernel)) (fun b1 => dg_name (i := 1) sc__law_rises.nd) (fun b1 => dts_one (dt_not (dt_cmp opr_lt rd_cmp2 (de_ix (de_var (i := 0)) (de_sub (de_var (i := 1)) (de_int))) (de_ix (de_var (i := 0)) (de_var (i := 1)))))) (fun b1 => de_var (i := 1))) (de_lst (da_nil))))
theorem g_law {a_is_count a_is_length a_is_name : Addr} {f : Addr} {fd : FuncData} (T : Tp K mg) (F0 : Fun K "law" "law" s_law f fd) (m_is_count : mg "is_count" = some (.ref a_is_count)) (m_is_name : mg "is_name" = some (.ref a_is_name)) (m_is_length : mg "is_length" = some (.ref a_is_length)) {f__law_bag : Addr} (D__law_bag : Def P w K mg base 1 "_law_bag" f__law_bag F__law_bag) {f__law_take : Addr} (D__law_take : Def P w K mg base 1 "_law_take" f__law_take F__law_take) {f__law_some : Addr} (D__law_some : Def P w K mg base 2 "_law_some" f__law_some F__law_some) {f__law_odds : Addr} (D__law_odds : Def P w K mg base 1 "_law_odds" f__law_odds F__law_odds) {f__law_whole : Addr} (D__law_whole : Def P w K mg base 1 "_law_whole" f__law_whole F__law_whole) {f__law_is_called : Addr} (D__law_is_called : Def P w K mg base 1 "_law_is_called" f__law_is_called F__law_is_called) {f__law_rises : Addr} (D__law_rises : Def P w K mg base 1 "_law_rises" f__law_rises F__law_rises) {f_is_integer : Addr} (D_is_integer : Def P w K mg base 1 "is_integer" f_is_integer F_is_integer) {f_is_count : Addr} (D_is_count : Def P w K mg base 2 "is_count" f_is_count F_is_count) {f_is_name : Addr} (D_is_name : Def P w K mg base 1 "is_name" f_is_name F_is_name) {f_is_counts : Addr} (D_is_counts : Def P w K mg base 5 "is_counts" f_is_counts (F_is_counts a_is_count a_is_length a_is_name)) {f_is_names : Addr} (D_is_names : Def P w K mg base 5 "is_names" f_is_names (F_is_names a_is_count a_is_length a_is_name)) {f_is_names_list : Addr} (D_is_names_list : Def P w K mg base 5 "is_names_list" f_is_names_list (F_is_names_list a_is_count a_is_length a_is_name)) {f__law_alike : Addr} (D__law_alike : Def P w K mg base 1 "_law_alike" f__law_alike F__law_alike) {f_is_thing : Addr} (D_is_thing : Def P w K mg base 3 "is_thing" f_is_thing F_is_thing) {f_is_length : Addr} (D_is_length : Def P w K mg base 3 "is_length" f_is_length F_is_length) {f_is_between : Addr} (D_is_between : Def P w K mg base 2 "is_between" f_is_between F_is_between) {f__law_is_in : Addr} (D__law_is_in : Def P w K mg base 2 "_law_is_in" f__law_is_in F__law_is_in) {f_is_tuple_of : Addr} (D_is_tuple_of : Def P w K mg base 4 "is_tuple_of" f_is_tuple_of (F_is_tuple_of a_is_count a_is_length a_is_name)) : FnG P w K mg base 6 f fd ["script"] (F_law a_is_count a_is_length a_is_name) := by
  refine fnG_ofC closer_V F0 sc_law rfl rfl fun cdv A out s H hu => ?_
  exact dss_cons (ds_set (i := 1) sc_law.nd (de_call (D__law_bag.mono (by decide)) hu (da_cons (de_var (i := 0)) (da_nil))))
    (dss_cons (ds_set (i := 2) sc_law.nd (de_lst (da_cons (de_str) (da_cons (de_str) (da_cons (de_str) (da_cons (de_str) (da_cons (de_str) (da_cons (de_str) (da_cons (de_str) (da_cons (de_str) (da_cons (de_str) (da_cons (de_str) (da_cons (de_str) (da_cons (de_str) (da_cons (de_str) (da_cons (de_str) (da_cons (de_str) (da_cons (de_str) (da_nil)))))))))))))))))))
    (dss_cons (ds_set (i := 3) sc_law.nd (de_str))
    (dss_cons (ds_for PassesOwn.never (di_rng1 T.z_range (de_int)) (dg_name (i := 4) sc_law.nd) (dss_cons (ds_set (i := 5) sc_law.nd (de_join (de_str) (de_lc (is := [15]) (own := [("k", 15)]) sc_law.nd (di_rng1 T.z_range (de_call (D__law_take.mono (by decide)) hu (da_cons (de_var (i := 1)) (da_cons (de_int) (da_nil))))) (blkOk_by (own := [("k", 15)]) (N := ["script", "bag", "words", "signs", "lap", "name", "thing", "parts", "names", "due", "told", "least", "most", "count", "numbers", "k", "one"]) (sc := defScope s_law) (by decide +kernel)) (fun b1 => dg_name (i := 15) sc_law.nd) (fun b1 => dts_nil) (fun b1 => de_ix (de_var (i := 3)) (de_call (D__law_take.mono (by decide)) (Up.blk hu _ b1) (da_cons (de_var (i := 1)) (da_cons (de_len T.z_len (da_cons (de_var (i := 3)) (da_nil))) (da_nil))))))))
    (dss_cons (ds_set (i := 6) sc_law.nd (de_call (D__law_some.mono (by decide)) hu (da_cons (de_var (i := 1)) (da_cons (de_lst (da_cons (de_call (D__law_some.mono (by decide)) hu (da_cons (de_var (i := 1)) (da_cons (de_call0 (D__law_odds.mono (by decide)) hu) (da_nil)))) (da_cons (de_var (i := 5)) (da_cons (de_call (D__law_some.mono (by decide)) hu (da_cons (de_var (i := 1)) (da_cons (de_var (i := 2)) (da_nil)))) (da_cons (de_tuple T.z_tuple (da_cons (de_lc (is := [15]) (own := [("k", 15)]) sc_law.nd (di_rng1 T.z_range (de_call (D__law_take.mono (by decide)) hu (da_cons (de_var (i := 1)) (da_cons (de_int) (da_nil))))) (blkOk_by (own := [("k", 15)]) (N := ["script", "bag", "words", "signs", "lap", "name", "thing", "parts", "names", "due", "told", "least", "most", "count", "numbers", "k", "one"]) (sc := defScope s_law) (by decide +kernel)) (fun b1 => dg_name (i := 15) sc_law.nd) (fun b1 => dts_nil) (fun b1 => de_call (D__law_some.mono (by decide)) (Up.blk hu _ b1) (da_cons (de_var (i := 1)) (da_cons (de_call0 (D__law_odds.mono (by decide)) (Up.blk hu _ b1)) (da_nil))))) (da_nil))) (da_nil)))))) (da_nil)))))
    (dss_cons (ds_set (i := 6) sc_law.nd (de_call (D__law_some.mono (by decide)) hu (da_cons (de_var (i := 1)) (da_cons (de_lst (da_cons (de_var (i := 6)) (da_cons (de_var (i := 6)) (da_cons (de_tuple T.z_tuple (da_cons (de_sorted T.z_sorted (da_cons (de_lc (is := [15]) (own := [("k", 15)]) sc_law.nd (di_rng1 T.z_range (de_call (D__law_take.mono (by decide)) hu (da_cons (de_var (i := 1)) (da_cons (de_int) (da_nil))))) (blkOk_by (own := [("k", 15)]) (N := ["script", "bag", "words", "signs", "lap", "name", "thing", "parts", "names", "due", "told", "least", "most", "count", "numbers", "k", "one"]) (sc := defScope s_law) (by decide +kernel)) (fun b1 => dg_name (i := 15) sc_law.nd) (fun b1 => dts_nil) (fun b1 => de_call (D__law_take.mono (by decide)) (Up.blk hu _ b1) (da_cons (de_var (i := 1)) (da_cons (de_int) (da_nil))))) (da_nil))) (da_nil))) (da_cons (de_tuple T.z_tuple (da_cons (de_sorted T.z_sorted (da_cons (de_lc (is := [15]) (own := [("k", 15)]) sc_law.nd (di_rng1 T.z_range (de_call (D__law_take.mono (by decide)) hu (da_cons (de_var (i := 1)) (da_cons (de_int) (da_nil))))) (blkOk_by (own := [("k", 15)]) (N := ["script", "bag", "words", "signs", "lap", "name", "thing", "parts", "names", "due", "told", "least", "most", "count", "numbers", "k", "one"]) (sc := defScope s_law) (by decide +kernel)) (fun b1 => dg_name (i := 15) sc_law.nd) (fun b1 => dts_nil) (fun b1 => de_call (D__law_some.mono (by decide)) (Up.blk hu _ b1) (da_cons (de_var (i := 1)) (da_cons (de_var (i := 2)) (da_nil))))) (da_nil))) (da_nil))) (da_nil)))))) (da_nil)))))
    (dss_cons (ds_set (i := 7) sc_law.nd (de_if (dt_truth (de_isi T.z_isinstance (da_cons (de_var (i := 6)) (da_cons (de_gty T.z_tuple boot_tuple) (da_nil))))) (de_var (i := 6)) (de_tup (da_nil))))
    (dss_cons (ds_par (i := 11) (j := 12) sc_law.nd (da_cons (de_sub (de_call (D__law_take.mono (by decide)) hu (da_cons (de_var (i := 1)) (da_cons (de_int) (da_nil)))) (de_int)) (da_cons (de_call (D__law_take.mono (by decide)) hu (da_cons (de_var (i := 1)) (da_cons (de_int) (da_nil)))) (da_nil))))
    (dss_cons (ds_par (i := 13) (j := 14) sc_law.nd (da_cons (de_and (de_call (D__law_whole.mono (by decide)) hu (da_cons (de_var (i := 6)) (da_nil))) (de_one (de_cmp op_ge rd_ge (de_var (i := 6)) (de_int)))) (da_cons (de_and (de_isi T.z_isinstance (da_cons (de_var (i := 6)) (da_cons (de_gty T.z_tuple boot_tuple) (da_nil)))) (de_one (de_cmp (op_eqX hu.room.units) rd_eqX (de_lc (is := [16]) (own := [("one", 16)]) sc_law.nd (di_seq (de_var (i := 7))) (blkOk_by (own := [("one", 16)]) (N := ["script", "bag", "words", "signs", "lap", "name", "thing", "parts", "names", "due", "told", "least", "most", "count", "numbers", "k", "one"]) (sc := defScope s_law) (by decide +kernel)) (fun b1 => dg_name (i := 16) sc_law.nd) (fun b1 => dts_one (dt_w (dw_or (dt_not (dt_truth (de_call (D__law_whole.mono (by decide)) (Up.blk hu _ b1) (da_cons (de_var (i := 16)) (da_nil))))) (dw_or1 (dt_cmp opr_lt rd_cmp2 (de_var (i := 16)) (de_int)))))) (fun b1 => de_var (i := 16))) (de_lst (da_nil))))) (da_nil))))
    (dss_cons (ds_set (i := 8) sc_law.nd (de_and (de_isi T.z_isinstance (da_cons (de_var (i := 6)) (da_cons (de_gty T.z_tuple boot_tuple) (da_nil)))) (de_one (de_cmp (op_eqX hu.room.units) rd_eqX (de_lc (is := [16]) (own := [("one", 16)]) sc_law.nd (di_seq (de_var (i := 7))) (blkOk_by (own := [("one", 16)]) (N := ["script", "bag", "words", "signs", "lap", "name", "thing", "parts", "names", "due", "told", "least", "most", "count", "numbers", "k", "one"]) (sc := defScope s_law) (by decide +kernel)) (fun b1 => dg_name (i := 16) sc_law.nd) (fun b1 => dts_one (dt_not (dt_truth (de_call (D__law_is_called.mono (by decide)) (Up.blk hu _ b1) (da_cons (de_var (i := 16)) (da_nil)))))) (fun b1 => de_var (i := 16))) (de_lst (da_nil))))))
    (dss_cons (ds_set (i := 9) sc_law.nd (de_lst (da_cons (de_call (D__law_whole.mono (by decide)) hu (da_cons (de_var (i := 6)) (da_nil))) (da_cons (de_var (i := 13)) (da_cons (de_call (D__law_is_called.mono (by decide)) hu (da_cons (de_var (i := 6)) (da_nil))) (da_cons (de_and (de_var (i := 14)) (de_one (de_call (D__law_rises.mono (by decide)) hu (da_cons (de_var (i := 7)) (da_nil))))) (da_cons (de_and (de_var (i := 8)) (de_one (de_call (D__law_rises.mono (by decide)) hu (da_cons (de_var (i := 7)) (da_nil))))) (da_cons (de_and (de_var (i := 8)) (de_one (de_cmp (op_eqX hu.room.units) rd_eqX (de_lenSet T.z_len T.z_set (de_var (i := 7))) (de_len T.z_len (da_cons (de_var (i := 7)) (da_nil)))))) (da_nil)))))))))
    (dss_cons (ds_set (i := 10) sc_law.nd (de_lst (da_cons (de_call (D_is_integer.mono (by decide)) hu (da_cons (de_var (i := 6)) (da_nil))) (da_cons (de_call (D_is_count.mono (by decide)) hu (da_cons (de_var (i := 6)) (da_nil))) (da_cons (de_call (D_is_name.mono (by decide)) hu (da_cons (de_var (i := 6)) (da_nil))) (da_cons (de_call (D_is_counts.mono (by decide)) hu (da_cons (de_var (i := 6)) (da_nil))) (da_cons (de_call (D_is_names.mono (by decide)) hu (da_cons (de_var (i := 6)) (da_nil))) (da_cons (de_call (D_is_names_list.mono (by decide)) hu (da_cons (de_var (i := 6)) (da_nil))) (da_nil)))))))))
    (dss_cons (ds_if (dt_not (dt_truth (de_call (D__law_alike.mono (by decide)) hu (da_cons (de_var (i := 10)) (da_cons (de_var (i := 9)) (da_nil)))))) (dss_one (ds_ret (de_bl))) (dss_nil))
    (dss_cons (ds_if (dt_not (dt_truth (de_call (D__law_alike.mono (by decide)) hu (da_cons (de_lst (da_cons (de_call (D_is_thing.mono (by decide)) hu (da_cons (de_var (i := 6)) (da_nil))) (da_cons (de_call (D_is_length.mono (by decide)) hu (da_cons (de_var (i := 6)) (da_nil))) (da_cons (de_call (D_is_between.mono (by decide)) hu (da_cons (de_var (i := 6)) (da_cons (de_var (i := 11)) (da_cons (de_var (i := 12)) (da_nil))))) (da_nil))))) (da_cons (de_lst (da_cons (de_call (D__law_is_in.mono (by decide)) hu (da_cons (de_var (i := 6)) (da_cons (de_int) (da_cons (de_int) (da_nil))))) (da_cons (de_call (D__law_is_in.mono (by decide)) hu (da_cons (de_var (i := 6)) (da_cons (de_int) (da_cons (de_int) (da_nil))))) (da_cons (de_call (D__law_is_in.mono (by decide)) hu (da_cons (de_var (i := 6)) (da_cons (de_var (i := 11)) (da_cons (de_var (i := 12)) (da_nil))))) (da_nil))))) (da_nil)))))) (dss_one (ds_ret (de_bl))) (dss_nil))
    (dss_one (ds_if (dt_not (dt_truth (de_call (D__law_alike.mono (by decide)) hu (da_cons (de_lst (da_cons (de_call (D_is_tuple_of.mono (by decide)) hu (da_cons (de_var (i := 6)) (da_cons (de_gfn m_is_count) (da_nil)))) (da_cons (de_call (D_is_tuple_of.mono (by decide)) hu (da_cons (de_var (i := 6)) (da_cons (de_gfn m_is_name) (da_nil)))) (da_cons (de_call (D_is_tuple_of.mono (by decide)) hu (da_cons (de_var (i := 6)) (da_cons (de_gfn m_is_length) (da_nil)))) (da_nil))))) (da_cons (de_lst (da_cons (de_var (i := 14)) (da_cons (de_var (i := 8)) (da_cons (de_and (de_var (i := 14)) (de_one (de_cmp (op_eqX hu.room.units) rd_eqX (de_lc (is := [16]) (own := [("one", 16)]) sc_law.nd (di_seq (de_var (i := 7))) (blkOk_by (own := [("one", 16)]) (N := ["script", "bag", "words", "signs", "lap", "name", "thing", "parts", "names", "due", "told", "least", "most", "count", "numbers", "k", "one"]) (sc := defScope s_law) (by decide +kernel)) (fun b1 => dg_name (i := 16) sc_law.nd) (fun b1 => dts_one (dt_not (dt_chain op_le op_le rd_le rd_le (de_int) (de_var (i := 16)) (de_int)))) (fun b1 => de_var (i := 16))) (de_lst (da_nil))))) (da_nil))))) (da_nil)))))) (dss_one (ds_ret (de_bl))) (dss_nil)))))))))))))))
    (dss_one (ds_ret (de_bl))))))
end
end K00

set_option Elab.async false
set_option linter.all false
set_option maxRecDepth 100000
set_option autoImplicit false
set_option maxHeartbeats 1000000
namespace K00
open PySem L2 Mir
/-! ### the values that are drawn -/
mutual
def th : D → Bool
  | .non => true | .bl _ => true | .int _ => true | .str y => decide (y.length ≤ 100)
  | .tup ds => decide (ds.length ≤ 100) && ths ds | .lst ds => decide (ds.length ≤ 100) && ths ds | .dic _ ds => ths ds
  | _ => false
def ths : List D → Bool
  | [] => true
  | d :: ds => th d && ths ds
end
mutual
theorem th_blw : ∀ d : D, th d = true → d.blw 0 = true
  | .non, _ => by simp only [D.blw]
  | .bl _, _ => by simp only [D.blw]
  | .int _, _ => by simp only [D.blw]
  | .str _, _ => by simp only [D.blw]
  | .tup ds, e => by
    simp only [th, Bool.and_eq_true] at e
    simp only [D.blw]
    exact ths_blw ds e.2
  | .lst ds, e => by
    simp only [th, Bool.and_eq_true] at e
    simp only [D.blw]
    exact ths_blw ds e.2
  | .dic _ ds, e => by
    simp only [th] at e
    simp only [D.blw]
    exact ths_blw ds e
  | .fro _, e => by simp [th] at e
  | .loc _, e => by simp [th] at e
  | .raw _, e => by simp [th] at e
theorem ths_blw : ∀ ds : List D, ths ds = true → D.blws 0 ds = true
  | [], _ => by simp only [D.blws]
  | d :: ds, e => by
    simp only [ths, Bool.and_eq_true] at e
    simp only [D.blws, Bool.and_eq_true]
    exact ⟨th_blw d e.1, ths_blw ds e.2⟩
end
theorem ths_mem : ∀ {ds : List D}, ths ds = true ↔ ∀ d ∈ ds, th d = true
  | [] => by simp [ths]
  | d :: ds => by simp [ths, ths_mem (ds := ds)]
def isI : D → Bool
  | .int _ => true
  | _ => false
def isC : D → Bool
  | .int i => decide (0 ≤ i)
  | _ => false
def isB (lo hi : Int) : D → Bool
  | .int i => decide (lo ≤ i) && decide (i ≤ hi)
  | _ => false
variable {S : Store} {d : D}
theorem ev_isi (b : String) (hk : knownTy b = true) (hd : th d = true) : ∃ a, tyD d = some a ∧ bIsi [d, .raw (.ty b)] S = some (.bl (isTy a b), S) := by
  cases d <;> first
    | (simp [th] at hd; done)
    | exact ⟨_, rfl, by simp [bIsi, hk, tyD]⟩
theorem ev_integer (hS : SOk S) (hd : th d = true) : F_is_integer [d] S = some (.bl (isI d), S) := by
  obtain ⟨a, e1, e2⟩ := ev_isi (S := S) "int" rfl hd
  obtain ⟨a', e3, e4⟩ := ev_isi (S := S) "bool" rfl hd
  rw [e1] at e3
  cases e3
  simp [F_is_integer, B_is_integer, fnC, sRet, sCons, sIf, sSet, sNil, fAndV, fOrV, fCall, fCons, fVar, fC, fNil, bnd, asB, fNotV, fOp, fUn, fNot, fAnd, fOr, fB, fTr, fChain, fIf, fTup, fLst, fSl, foNone, foSome, e2, e4]
  cases d <;> first
    | (simp [th] at hd; done)
    | (cases e1; simp [isI, isTy, closeV_bl hS])
theorem ev_whole (hS : SOk S) (hd : th d = true) : F__law_whole [d] S = some (.bl (isI d), S) := ev_integer hS hd
theorem ev_count (hS : SOk S) (hd : th d = true) : F_is_count [d] S = some (.bl (isC d), S) := by
  simp [F_is_count, B_is_count, fnC, sRet, sCons, sIf, sSet, sNil, fAndV, fOrV, fCall, fCons, fVar, fC, fNil, bnd, asB, fNotV, fOp, fUn, fNot, fAnd, fOr, fB, fTr, fChain, fIf, fTup, fLst, fSl, foNone, foSome, ev_integer hS hd]
  cases d <;> simp [isI, isC, oGe, oI, closeV_bl hS]
theorem ev_between {lo hi : Int} (hS : SOk S) (hd : th d = true) : F_is_between [d, .int lo, .int hi] S = some (.bl (isB lo hi d), S) := by
  simp [F_is_between, B_is_between, fnC, sRet, sCons, sIf, sSet, sNil, fAndV, fOrV, fCall, fCons, fVar, fC, fNil, bnd, asB, fNotV, fOp, fUn, fNot, fAnd, fOr, fB, fTr, fChain, fIf, fTup, fLst, fSl, foNone, foSome, ev_integer hS hd]
  cases d with
  | int i => by_cases h : lo ≤ i <;> simp [isI, isB, oLe, oI, h, closeV_bl hS]
  | _ => simp [isI, isB, closeV_bl hS]
theorem ev_in {lo hi : Int} (hS : SOk S) (hd : th d = true) : F__law_is_in [d, .int lo, .int hi] S = some (.bl (isB lo hi d), S) := by
  simp [F__law_is_in, B__law_is_in, fnC, sRet, sCons, sIf, sSet, sNil, fAndV, fOrV, fCall, fCons, fVar, fC, fNil, bnd, asB, fNotV, fOp, fUn, fNot, fAnd, fOr, fB, fTr, fChain, fIf, fTup, fLst, fSl, foNone, foSome, ev_whole hS hd]
  cases d with
  | int i => by_cases h : lo ≤ i <;> simp [isI, isB, oLe, oI, h, closeV_bl hS]
  | _ => simp [isI, isB, closeV_bl hS]
theorem ev_thing (hS : SOk S) (hd : th d = true) : F_is_thing [d] S = some (.bl (isB 0 999 d), S) := by
  simp [F_is_thing, B_is_thing, fnC, sRet, sCons, sIf, sSet, sNil, fAndV, fOrV, fCall, fCons, fVar, fC, fNil, bnd, asB, fNotV, fOp, fUn, fNot, fAnd, fOr, fB, fTr, fChain, fIf, fTup, fLst, fSl, foNone, foSome, ev_between hS hd, closeV_bl hS]
theorem ev_length (hS : SOk S) (hd : th d = true) : F_is_length [d] S = some (.bl (isB 1 12 d), S) := by
  simp [F_is_length, B_is_length, fnC, sRet, sCons, sIf, sSet, sNil, fAndV, fOrV, fCall, fCons, fVar, fC, fNil, bnd, asB, fNotV, fOp, fUn, fNot, fAnd, fOr, fB, fTr, fChain, fIf, fTup, fLst, fSl, foNone, foSome, ev_between hS hd, closeV_bl hS]
/-! ### names -/
def low : List Nat := ("abcdefghijklmnopqrstuvwxyz" : Str).cps.toList
def alnum : List Nat := ("abcdefghijklmnopqrstuvwxyz0123456789" : Str).cps.toList
/-- a text's own part of being a name -/
def isNS (y : Str) : Bool := decide (1 ≤ y.length) && decide (y.length ≤ 8) && (match y.cps.toList with
    | c :: _ => decide (c ∈ low)
    | [] => false) && y.cps.toList.all (fun c => decide (c ∈ alnum)) && !inV (V.str y) (v_RESERVED.map V.str)
def isN : D → Bool
  | .str y => isNS y
  | _ => false
theorem asBls_map : ∀ bs : List Bool, asBls (bs.map .bl) = some bs
  | [] => rfl
  | b :: bs => by
    show (asBls (bs.map .bl)).map _ = _
    rw [asBls_map bs]
    rfl
theorem sizeLine_le : 100 ≤ sizeLine := by decide
theorem ev_all (bs : List Bool) : bAll [.lst (bs.map .bl)] S = some (.bl (bs.all id), S) := by
  simp [bAll, lsOf, asBls_map]
theorem in_str {c : Nat} {z : Str} {neg : Bool} : oInN neg (.str ⟨#[c]⟩) (.str z) S = some (.bl (if neg then !decide (c ∈ z.cps.toList) else decide (c ∈ z.cps.toList)), S) := by
  simp [oInN]
theorem lets : ("abcdefghijklmnopqrstuvwxyz" : Str) ++ ("0123456789" : Str) = "abcdefghijklmnopqrstuvwxyz0123456789" := by decide +kernel
def chs (y : Str) : List D := y.cps.toList.map fun c => .str ⟨#[c]⟩
theorem len_chs (y : Str) : (chs y).length = y.length := by
  unfold chs
  rw [List.length_map, Array.length_toList]
  rfl
theorem lc_alnum {y : Str} (hS : SOk S) (hy : y.length ≤ 100) : fLc (fIt gSeq (fVar 0)) (tgN 1) tYesF (fOp (oInN false) (fVar 1) (fOp oAdd (fC (.str "abcdefghijklmnopqrstuvwxyz")) (fC (.str "0123456789")))) [1] [some (.str y), none] S =
    some (.lst ((y.cps.toList.map fun c => decide (c ∈ alnum)).map .bl), S) := by
  rw [fLc_map (ds := chs y) (fun d => match d with
    | .str z => .bl (decide (z.cps.toList.headD 0 ∈ alnum))
    | _ => .non) hS rfl (fun d hd => ?_) (by rw [len_chs]; have := sizeLine_le; omega)]
  · simp [chs, Function.comp_def]
    intros
    congr
  · obtain ⟨c, hc, rfl⟩ := List.mem_map.mp hd
    refine ⟨[some (.str y), some (.str ⟨#[c]⟩)], fun S' hS' => ⟨rfl, ?_, rfl⟩⟩
    have e : oAdd (.str "abcdefghijklmnopqrstuvwxyz") (.str "0123456789") S' = some (.str "abcdefghijklmnopqrstuvwxyz0123456789", S') := by
      unfold oAdd
      simp only [lets]
      rfl
    simp [fnC, sRet, sCons, sIf, sSet, sNil, fAndV, fOrV, fCall, fCons, fVar, fC, fNil, bnd, asB, fNotV, fOp, fUn, fNot, fAnd, fOr, fB, fTr, fChain, fIf, fTup, fLst, fSl, foNone, foSome, e, in_str, alnum]
theorem first_low {y : Str} {c : Nat} {r : List Nat} (h : y.cps.toList = c :: r) (hy : y.length ≤ 100) : oIx (.str y) (.int 0) S = some (.str ⟨#[c]⟩, S) := by
  unfold oIx
  have := sizeLine_le
  simp only
  rw [if_pos (by omega), h, atI_zero]
  rfl
theorem resd : D.fvs (v_RESERVED.map .str) = some (v_RESERVED.map V.str) := rfl
theorem in_res {y : Str} : oInN true (.str y) (.tup (v_RESERVED.map .str)) S = some (.bl (!inV (V.str y) (v_RESERVED.map V.str)), S) := by
  simp [oInN, seqOf, resd, D.fv]
theorem len_cps {y : Str} : y.length = y.cps.toList.length := rfl
theorem ev_name (hS : SOk S) (hd : th d = true) : F_is_name [d] S = some (.bl (isN d), S) := by
  obtain ⟨a, e1, e2⟩ := ev_isi (S := S) "str" rfl hd
  have sl := sizeLine_le
  simp [F_is_name, B_is_name, fnC, sRet, sCons, sIf, sSet, sNil, fAndV, fOrV, fCall, fCons, fVar, fC, fNil, bnd, asB, fNotV, fOp, fUn, fNot, fAnd, fOr, fB, fTr, fChain, fIf, fTup, fLst, fSl, foNone, foSome, e2, truD]
  cases d with
  | str y =>
    cases e1
    have hl : y.length ≤ 100 := by simpa [th] using hd
    have el : bLen [.str y] S = some (.int y.length, S) := by simp [bLen]; omega
    have eal := lc_alnum hS hl
    simp only [isTy, el, oLe, oI, isN, isNS]
    by_cases h1 : 1 ≤ y.length ∧ y.length ≤ 8
    · cases hc : y.cps.toList with
      | nil => rw [len_cps, hc] at h1; simp at h1
      | cons c r =>
        have h1' : (1 : Int) ≤ y.length := by omega
        have h2' : (y.length : Int) ≤ 8 := by omega
        rw [hc] at eal
        by_cases h3 : c ∈ low
        · have h3' := h3
          unfold low at h3'
          have hal : (decide (c ∈ alnum) && r.all fun c => decide (c ∈ alnum)) = ((c :: r).map fun c => decide (c ∈ alnum)).all id := by simp [Function.comp_def]
          generalize ((c :: r).map fun c => decide (c ∈ alnum)) = bs at eal hal
          have eb := ev_all (S := S) bs
          generalize bs.all id = b at hal eb
          simp [h1', h2', h1.1, h1.2, first_low hc hl, in_str, h3, h3', eal, eb, hal]
          cases b <;> simp [in_res, closeV_bl hS]
        · have h3' := h3
          unfold low at h3'
          simp [h1', h2', h1.1, h1.2, first_low hc hl, in_str, h3, h3', closeV_bl hS]
    · by_cases h2 : 1 ≤ y.length
      · have h3 : ¬ y.length ≤ 8 := fun z => h1 ⟨h2, z⟩
        have h2' : (1 : Int) ≤ y.length := by omega
        have h3' : ¬ (y.length : Int) ≤ 8 := by omega
        simp [h2, h3, h2', h3', closeV_bl hS]
      · have h2' : ¬ (1 : Int) ≤ y.length := by omega
        simp [h2, h2', closeV_bl hS]
  | _ => first
    | (simp [th] at hd; done)
    | (cases e1; simp [isN, isTy, closeV_bl hS])
/-- what is none of a text's letters, gone over by the law -/
theorem lc_other {y : Str} (hS : SOk S) (hy : y.length ≤ 100) : fLc (fIt gSeq (fVar 0)) (tgN 1) (fB (fOp (oInN true) (fVar 1) (fC (.str "abcdefghijklmnopqrstuvwxyz0123456789")))) (fVar 1) [1] [some (.str y), none] S =
    some (.lst ((chs y).filter fun d => match d with
      | .str z => !decide (z.cps.toList.headD 0 ∈ alnum)
      | _ => false), S) := by
  rw [fLc_pure (ds := chs y) (fun d => match d with
      | .str z => !decide (z.cps.toList.headD 0 ∈ alnum)
      | _ => false) id hS rfl (fun d hd => ?_) (by rw [len_chs]; have := sizeLine_le; omega)]
  · rw [List.map_id]
  · obtain ⟨c, hc, rfl⟩ := List.mem_map.mp hd
    refine ⟨[some (.str y), some (.str ⟨#[c]⟩)], fun S' hS' => ⟨rfl, ?_, fun _ => ⟨rfl, rfl⟩⟩⟩
    simp [fnC, sRet, sCons, sIf, sSet, sNil, fAndV, fOrV, fCall, fCons, fVar, fC, fNil, bnd, asB, fNotV, fOp, fUn, fNot, fAnd, fOr, fB, fTr, fChain, fIf, fTup, fLst, fSl, foNone, foSome, in_str, alnum]
theorem other_empty {y : Str} : ((chs y).filter fun d => match d with
      | .str z => !decide (z.cps.toList.headD 0 ∈ alnum)
      | _ => false).isEmpty = y.cps.toList.all fun c => decide (c ∈ alnum) := by
  unfold chs
  induction y.cps.toList with
  | nil => rfl
  | cons c r ih =>
    rw [List.map_cons, List.filter_cons, List.all_cons, ← ih]
    by_cases h : c ∈ alnum <;> simp [h]
theorem ev_called (hS : SOk S) (hd : th d = true) : F__law_is_called [d] S = some (.bl (isN d), S) := by
  obtain ⟨a, e1, e2⟩ := ev_isi (S := S) "str" rfl hd
  have sl := sizeLine_le
  simp [F__law_is_called, B__law_is_called, fnC, sRet, sCons, sIf, sSet, sNil, fAndV, fOrV, fCall, fCons, fVar, fC, fNil, bnd, asB, fNotV, fOp, fUn, fNot, fAnd, fOr, fB, fTr, fChain, fIf, fTup, fLst, fSl, foNone, foSome, e2, truD]
  cases d with
  | str y =>
    cases e1
    have hl : y.length ≤ 100 := by simpa [th] using hd
    have el : bLen [.str y] S = some (.int y.length, S) := by simp [bLen]; omega
    have eal := lc_other hS hl
    have eem := other_empty (y := y)
    have eres := in_res (y := y) (S := S)
    have s12 : 12 ≤ sizeLine := by omega
    simp only [v_RESERVED, List.map_cons, List.map_nil] at eres
    generalize ((chs y).filter fun d => match d with
      | .str z => !decide (z.cps.toList.headD 0 ∈ alnum)
      | _ => false) = xs at eal eem
    simp only [isTy, el, oLe, oI, isN, isNS]
    rw [← eem]
    by_cases h1 : 1 ≤ y.length ∧ y.length ≤ 8
    · cases hc : y.cps.toList with
      | nil => rw [len_cps, hc] at h1; simp at h1
      | cons c r =>
        have h1' : (1 : Int) ≤ y.length := by omega
        have h2' : (y.length : Int) ≤ 8 := by omega
        by_cases h3 : c ∈ low
        · have h3' := h3
          unfold low at h3'
          have en := oNeX_nil (S := S) xs
          generalize xs.isEmpty = b at en ⊢
          simp [h1', h2', h1.1, h1.2, first_low hc hl, in_str, h3, h3', eal, en]
          cases b <;> simp [closeV_bl hS, eres, s12, v_RESERVED]
        · have h3' := h3
          unfold low at h3'
          simp [h1', h2', h1.1, h1.2, first_low hc hl, in_str, h3, h3', closeV_bl hS]
    · by_cases h2 : 1 ≤ y.length
      · have h3 : ¬ y.length ≤ 8 := fun z => h1 ⟨h2, z⟩
        have h2' : (1 : Int) ≤ y.length := by omega
        have h3' : ¬ (y.length : Int) ≤ 8 := by omega
        simp [h2, h3, h2', h3', closeV_bl hS]
      · have h2' : ¬ (1 : Int) ≤ y.length := by omega
        simp [h2, h2', closeV_bl hS]
  | _ => first
    | (simp [th] at hd; done)
    | (cases e1; simp [isN, isTy, closeV_bl hS])
/-! ### tuples -/
def tupAll (f : D → Bool) : D → Bool
  | .tup ds => ds.all f
  | _ => false
theorem ev_tuple_of {ac al an a : Addr} {F : FF} {f : D → Bool} (hS : SOk S) (hd : th d = true) (ht : tabL [(ac, F_is_count), (an, F_is_name), (al, F_is_length)] a = some F)
    (hF : ∀ x S', SOk S' → th x = true → F [x] S' = some (.bl (f x), S')) : F_is_tuple_of ac al an [d, .raw (.ref a)] S = some (.bl (tupAll f d), S) := by
  obtain ⟨t, e1, e2⟩ := ev_isi (S := S) "tuple" rfl hd
  have sl := sizeLine_le
  simp [F_is_tuple_of, B_is_tuple_of, fnC, sRet, sCons, sIf, sSet, sNil, fAndV, fOrV, fCall, fCons, fVar, fC, fNil, bnd, asB, fNotV, fOp, fUn, fNot, fAnd, fOr, fB, fTr, fChain, fIf, fTup, fLst, fSl, foNone, foSome, e2]
  cases d with
  | tup ds =>
    cases e1
    simp only [th, Bool.and_eq_true, decide_eq_true_eq] at hd
    have hm := ths_mem.mp hd.2
    have elc : fLc (fIt gSeq (fVar 0)) (tgN 2) tYesF (fCallV (tabL [(ac, F_is_count), (an, F_is_name), (al, F_is_length)]) 1 (fCons (fVar 2) fNil)) [2] [some (.tup ds), some (.raw (.ref a)), none] S = some (.lst ((ds.map f).map .bl), S) := by
      rw [fLc_map (ds := ds) (fun x => .bl (f x)) hS rfl (fun x hx => ?_) (by omega)]
      · rw [List.map_map]
        rfl
      · refine ⟨[some (.tup ds), some (.raw (.ref a)), some x], fun S' hS' => ⟨rfl, ?_, rfl⟩⟩
        simp [fCallV, ht, fnC, sRet, sCons, sIf, sSet, sNil, fAndV, fOrV, fCall, fCons, fVar, fC, fNil, bnd, asB, fNotV, fOp, fUn, fNot, fAnd, fOr, fB, fTr, fChain, fIf, fTup, fLst, fSl, foNone, foSome, hF x S' hS' (hm x hx)]
    have eb := ev_all (S := S) (ds.map f)
    have ea : ds.all f = (ds.map f).all id := by simp [Function.comp_def]
    simp only [tupAll]
    rw [ea]
    generalize (ds.map f) = bs at elc eb ⊢
    generalize bs.all id = b at eb ⊢
    simp [isTy, elc, eb, closeV_bl hS]
  | _ => first
    | (simp [th] at hd; done)
    | (cases e1; simp [tupAll, isTy, closeV_bl hS])
def isS : D → Bool
  | .str _ => true
  | _ => false
def ltD : D → D → Bool
  | .int i, .int j => decide (i < j)
  | .str i, .str j => strLt i j
  | _, _ => false
def alikeK (ds : List D) : Prop := (∀ d ∈ ds, isI d = true) ∨ (∀ d ∈ ds, isS d = true)
theorem oLt_ok {x y : D} (h : (isI x = true ∧ isI y = true) ∨ (isS x = true ∧ isS y = true)) : oLt x y S = some (.bl (ltD x y), S) := by
  cases x <;> cases y <;> first
    | rfl
    | (simp [isI, isS] at h; done)
theorem alikeK.two {ds : List D} (h : alikeK ds) {x y : D} (hx : x ∈ ds) (hy : y ∈ ds) : (isI x = true ∧ isI y = true) ∨ (isS x = true ∧ isS y = true) :=
  h.imp (fun h => ⟨h x hx, h y hy⟩) (fun h => ⟨h x hx, h y hy⟩)
def risesB : List D → Bool
  | x :: y :: r => ltD x y && risesB (y :: r)
  | _ => true
theorem zip_rises : ∀ ds : List D, (zipD ds (ds.drop 1)).all (fun d => match d with
    | .tup [x, y] => ltD x y
    | _ => false) = risesB ds
  | [] => rfl
  | [x] => rfl
  | x :: y :: r => by
    have ih := zip_rises (y :: r)
    show (ltD x y && (zipD (y :: r) ((y :: r).drop 1)).all _) = (ltD x y && risesB (y :: r))
    rw [ih]
theorem zip_mem : ∀ {xs ys : List D} {d : D}, d ∈ zipD xs ys → ∃ x y, x ∈ xs ∧ y ∈ ys ∧ d = .tup [x, y]
  | x :: xs, y :: ys, d, h => by
    rcases List.mem_cons.mp (show d ∈ D.tup [x, y] :: zipD xs ys from h) with rfl | h
    · exact ⟨x, y, List.mem_cons_self, List.mem_cons_self, rfl⟩
    · obtain ⟨a, b, h1, h2, h3⟩ := zip_mem h
      exact ⟨a, b, List.mem_cons_of_mem _ h1, List.mem_cons_of_mem _ h2, h3⟩
  | [], _, _, h => by simp [zipD] at h
  | _ :: _, [], _, h => by simp [zipD] at h
theorem zip_le : ∀ {xs ys : List D}, (zipD xs ys).length ≤ xs.length
  | x :: xs, y :: ys => Nat.succ_le_succ zip_le
  | [], _ => Nat.le_refl _
  | _ :: _, [] => Nat.zero_le _
theorem cut1 (ds : List D) : cutD ds (some 1) none = ds.drop 1 := by
  unfold cutD
  rw [show HT.sIx ds.length 0 (some 1) = min 1 ds.length from HT.sIx_nat ds.length 0 1, HT.sIx_none]
  cases ds with
  | nil => rfl
  | cons x r =>
    have e : min 1 (x :: r).length = 1 := by
      rw [List.length_cons]
      omega
    rw [e]
    show r.take ((r.length + 1) - 1) = r
    simp
theorem ev_asc {ds : List D} (hS : SOk S) (hl : ds.length ≤ 100) (hk : alikeK ds) : F_are_ascending [.tup ds] S = some (.bl (risesB ds), S) := by
  have sl := sizeLine_le
  have elc : fLc (fZip (fCons (fVar 0) (fCons (fSl (fVar 0) (foSome (fC (.int 1))) foNone) fNil))) (tgTup (tgCons (tgN 1) (tgCons (tgN 2) tgNil))) tYesF (fOp oLt (fVar 1) (fVar 2)) [1, 2] [some (.tup ds), none, none] S =
      some (.lst (((zipD ds (ds.drop 1)).map fun d => match d with
        | .tup [x, y] => ltD x y
        | _ => false).map .bl), S) := by
    rw [fLc_map (ds := zipD ds (ds.drop 1)) (fun d => .bl (match d with
        | .tup [x, y] => ltD x y
        | _ => false)) hS ?_ (fun d hd => ?_) (Nat.le_trans zip_le (by omega))]
    · rw [List.map_map]
      rfl
    · simp [fZip, fnC, sRet, sCons, sIf, sSet, sNil, fAndV, fOrV, fCall, fCons, fVar, fC, fNil, bnd, asB, fNotV, fOp, fUn, fNot, fAnd, fOr, fB, fTr, fChain, fIf, fTup, fLst, fSl, foNone, foSome, oSl, asI, cut1, Mir.gTup]
    · obtain ⟨x, y, hx, hy, rfl⟩ := zip_mem hd
      refine ⟨[some (.tup ds), some x, some y], fun S' hS' => ⟨rfl, ?_, rfl⟩⟩
      have := oLt_ok (S := S') (hk.two hx (List.mem_of_mem_drop hy))
      simp [fnC, sRet, sCons, sIf, sSet, sNil, fAndV, fOrV, fCall, fCons, fVar, fC, fNil, bnd, asB, fNotV, fOp, fUn, fNot, fAnd, fOr, fB, fTr, fChain, fIf, fTup, fLst, fSl, foNone, foSome, this]
  have ez := zip_rises ds
  have eb := ev_all (S := S) ((zipD ds (ds.drop 1)).map fun d => match d with
        | .tup [x, y] => ltD x y
        | _ => false)
  rw [List.all_map] at eb
  simp only [Function.comp_def, id] at eb
  rw [ez] at eb
  generalize ((zipD ds (ds.drop 1)).map fun d => match d with
        | .tup [x, y] => ltD x y
        | _ => false) = bs at elc eb
  simp [F_are_ascending, B_are_ascending, fnC, sRet, sCons, sIf, sSet, sNil, fAndV, fOrV, fCall, fCons, fVar, fC, fNil, bnd, asB, fNotV, fOp, fUn, fNot, fAnd, fOr, fB, fTr, fChain, fIf, fTup, fLst, fSl, foNone, foSome, elc, eb, closeV_bl hS]
end K00

set_option Elab.async false
set_option linter.all false
set_option maxRecDepth 100000
set_option autoImplicit false
set_option maxHeartbeats 1000000
namespace K00
open PySem L2 Mir
variable {S : Store} {d : D}
theorem range_rises : ∀ ds : List D, ((List.range (ds.length - 1)).all fun i => ltD (ds.getD i .non) (ds.getD (i + 1) .non)) = risesB ds
  | [] => rfl
  | [x] => rfl
  | x :: y :: r => by
    have ih := range_rises (y :: r)
    have e : (x :: y :: r).length - 1 = ((y :: r).length - 1) + 1 := by simp
    rw [e, List.range_succ_eq_map, List.all_cons, List.all_map, risesB, ← ih]
    rfl
theorem ev_rises {ds : List D} (hS : SOk S) (hl : ds.length ≤ 100) (hk : alikeK ds) : F__law_rises [.tup ds] S = some (.bl (risesB ds), S) := by
  have sl := sizeLine_le
  have ib : ∀ i, i + 1 < ds.length → ∃ x y, ds[i]? = some x ∧ ds[i + 1]? = some y ∧ x ∈ ds ∧ y ∈ ds := fun i hi =>
    ⟨ds[i], ds[i + 1], List.getElem?_eq_getElem _, List.getElem?_eq_getElem _, List.getElem_mem _, List.getElem_mem _⟩
  have rl : (rng 1 ds.length).length ≤ 100 := by simp [rng]; omega
  have elc : fLc (fRng2 (fC (.int 1)) (fCall bLen (fCons (fVar 0) fNil))) (tgN 1) (fNot (fB (fOp oLt (fOp oIx (fVar 0) (fOp oSub (fVar 1) (fC (.int 1)))) (fOp oIx (fVar 0) (fVar 1))))) (fVar 1) [1] [some (.tup ds), none] S =
      some (.lst ((rng 1 ds.length).filter fun d => match d with
        | .int i => !ltD (ds.getD (i.toNat - 1) .non) (ds.getD i.toNat .non)
        | _ => false), S) := by
    rw [fLc_pure (ds := rng 1 ds.length) (fun d => match d with
        | .int i => !ltD (ds.getD (i.toNat - 1) .non) (ds.getD i.toNat .non)
        | _ => false) id hS ?_ (fun d hd => ?_) (by omega)]
    · rw [List.map_id]
    · simp [fRng2, fnC, sRet, sCons, sIf, sSet, sNil, fAndV, fOrV, fCall, fCons, fVar, fC, fNil, bnd, asB, fNotV, fOp, fUn, fNot, fAnd, fOr, fB, fTr, fChain, fIf, fTup, fLst, fSl, foNone, foSome, asI, bLen, seqOf, okR]
      omega
    · obtain ⟨i, hi, rfl⟩ := List.mem_map.mp hd
      have hi : i < ((ds.length : Int) - 1).toNat := List.mem_range.mp hi
      obtain ⟨x, y, h1, h2, hx, hy⟩ := ib i (by omega)
      refine ⟨[some (.tup ds), some (.int (1 + i))], fun S' hS' => ⟨rfl, ?_, fun _ => ⟨rfl, rfl⟩⟩⟩
      have lt := oLt_ok (S := S') (hk.two hx hy)
      have e1 : oIx (.tup ds) (.int (1 + (i : Int) - 1)) S' = some (x, S') := by
        have e : (1 + (i : Int) - 1) = ((i : Nat) : Int) := by omega
        rw [e]
        have e9 : atI ds ((i : Nat) : Int) = some x := atI_nat h1
        simp only [oIx, seqOf, Option.bind_some, e9, Option.map_some]
      have e2 : oIx (.tup ds) (.int (1 + (i : Int))) S' = some (y, S') := by
        have e : (1 + (i : Int)) = ((i + 1 : Nat) : Int) := by omega
        rw [e]
        have e9 : atI ds ((i + 1 : Nat) : Int) = some y := atI_nat h2
        simp only [oIx, seqOf, Option.bind_some, e9, Option.map_some]
      have e3 : (1 + (i : Int)).toNat = i + 1 := by omega
      simp [fnC, sRet, sCons, sIf, sSet, sNil, fAndV, fOrV, fCall, fCons, fVar, fC, fNil, bnd, asB, fNotV, fOp, fUn, fNot, fAnd, fOr, fB, fTr, fChain, fIf, fTup, fLst, fSl, foNone, foSome, oSub, oI, e1, e2, lt, e3, h1, h2]
  have ee : ((rng 1 ds.length).filter fun d => match d with
        | .int i => !ltD (ds.getD (i.toNat - 1) .non) (ds.getD i.toNat .non)
        | _ => false).isEmpty = risesB ds := by
    rw [← range_rises ds]
    have en : ((ds.length : Int) - 1).toNat = ds.length - 1 := by omega
    unfold rng
    rw [en]
    generalize ds.length - 1 = n
    rw [Bool.eq_iff_iff, List.isEmpty_iff, List.filter_eq_nil_iff]
    simp only [List.mem_map, List.mem_range, List.all_eq_true, forall_exists_index, and_imp, forall_apply_eq_imp_iff₂, Bool.not_eq_true', Bool.not_eq_false]
    constructor
    · intro h i hi
      have := h i hi
      have e3 : (1 + (i : Int)).toNat = i + 1 := by omega
      simpa [e3] using this
    · intro h i hi
      have := h i hi
      have e3 : (1 + (i : Int)).toNat = i + 1 := by omega
      simpa [e3] using this
  have en := oEqX_nil (S := S) ((rng 1 ds.length).filter fun d => match d with
        | .int i => !ltD (ds.getD (i.toNat - 1) .non) (ds.getD i.toNat .non)
        | _ => false)
  rw [ee] at en
  generalize ((rng 1 ds.length).filter fun d => match d with
        | .int i => !ltD (ds.getD (i.toNat - 1) .non) (ds.getD i.toNat .non)
        | _ => false) = xs at elc en
  simp [F__law_rises, B__law_rises, fnC, sRet, sCons, sIf, sSet, sNil, fAndV, fOrV, fCall, fCons, fVar, fC, fNil, bnd, asB, fNotV, fOp, fUn, fNot, fAnd, fOr, fB, fTr, fChain, fIf, fTup, fLst, fSl, foNone, foSome, elc, en, closeV_bl hS]
/-! ### what is told of a value -/
def cntB (d : D) : Bool := tupAll isC d && (match d with
  | .tup ds => risesB ds
  | _ => false)
def nmsB (d : D) : Bool := tupAll isN d && (match d with
  | .tup ds => risesB ds
  | _ => false)
def nmlB (d : D) : Bool := tupAll isN d && (match d with
  | .tup ds => (match asStrs ds with
    | some xs => decide (((dedupS xs).length : Int) = ds.length)
    | none => false)
  | _ => false)
theorem alike_isC {ds : List D} (h : ds.all isC = true) : alikeK ds := .inl fun d hd => by
  have := List.all_eq_true.mp h d hd
  cases d <;> simp_all [isC, isI]
theorem alike_isN {ds : List D} (h : ds.all isN = true) : alikeK ds := .inr fun d hd => by
  have := List.all_eq_true.mp h d hd
  cases d <;> simp_all [isN, isS]
theorem strs_of : ∀ {ds : List D}, ds.all isN = true → ∃ xs, asStrs ds = some xs ∧ xs.length = ds.length
  | [], _ => ⟨[], rfl, rfl⟩
  | d :: ds, h => by
    rw [List.all_cons, Bool.and_eq_true] at h
    obtain ⟨xs, e1, e2⟩ := strs_of h.2
    cases d with
    | str y => exact ⟨y :: xs, by show (asStrs ds).map _ = _; rw [e1]; rfl, by simp [e2]⟩
    | _ => simp [isN] at h
structure Apart (ac al an : Addr) : Prop where
  h1 : an ≠ ac
  h2 : al ≠ ac
  h3 : al ≠ an
section
variable {ac al an : Addr} (hA : Apart ac al an)
include hA
theorem ev_tc (hS : SOk S) (hd : th d = true) : F_is_tuple_of ac al an [d, .raw (.ref ac)] S = some (.bl (tupAll isC d), S) :=
  ev_tuple_of (F := F_is_count) hS hd (by simp [tabL]) fun x S' h1 h2 => ev_count h1 h2
theorem ev_tn (hS : SOk S) (hd : th d = true) : F_is_tuple_of ac al an [d, .raw (.ref an)] S = some (.bl (tupAll isN d), S) :=
  ev_tuple_of (F := F_is_name) hS hd (by simp [tabL, hA.h1]) fun x S' h1 h2 => ev_name h1 h2
theorem ev_tl (hS : SOk S) (hd : th d = true) : F_is_tuple_of ac al an [d, .raw (.ref al)] S = some (.bl (tupAll (isB 1 12) d), S) :=
  ev_tuple_of (F := F_is_length) hS hd (by simp [tabL, hA.h2, hA.h3]) fun x S' h1 h2 => ev_length h1 h2
theorem ev_counts (hS : SOk S) (hd : th d = true) : F_is_counts ac al an [d] S = some (.bl (cntB d), S) := by
  have e := ev_tc hA hS hd
  simp [F_is_counts, B_is_counts, fnC, sRet, sCons, sIf, sSet, sNil, fAndV, fOrV, fCall, fCons, fVar, fC, fNil, bnd, asB, fNotV, fOp, fUn, fNot, fAnd, fOr, fB, fTr, fChain, fIf, fTup, fLst, fSl, foNone, foSome, e]
  cases d with
  | tup ds =>
    simp only [th, Bool.and_eq_true, decide_eq_true_eq] at hd
    by_cases h : ds.all isC = true
    · have ea := ev_asc hS hd.1 (alike_isC h)
      simp [tupAll, h, ea, closeV_bl hS, cntB]
    · rw [Bool.not_eq_true] at h
      simp [tupAll, h, closeV_bl hS, cntB]
  | _ => simp [tupAll, cntB, closeV_bl hS]
theorem ev_names (hS : SOk S) (hd : th d = true) : F_is_names ac al an [d] S = some (.bl (nmsB d), S) := by
  have e := ev_tn hA hS hd
  simp [F_is_names, B_is_names, fnC, sRet, sCons, sIf, sSet, sNil, fAndV, fOrV, fCall, fCons, fVar, fC, fNil, bnd, asB, fNotV, fOp, fUn, fNot, fAnd, fOr, fB, fTr, fChain, fIf, fTup, fLst, fSl, foNone, foSome, e]
  cases d with
  | tup ds =>
    simp only [th, Bool.and_eq_true, decide_eq_true_eq] at hd
    by_cases h : ds.all isN = true
    · have ea := ev_asc hS hd.1 (alike_isN h)
      simp [tupAll, h, ea, closeV_bl hS, nmsB]
    · rw [Bool.not_eq_true] at h
      simp [tupAll, h, closeV_bl hS, nmsB]
  | _ => simp [tupAll, nmsB, closeV_bl hS]
theorem ev_nameslist (hS : SOk S) (hd : th d = true) : F_is_names_list ac al an [d] S = some (.bl (nmlB d), S) := by
  have e := ev_tn hA hS hd
  simp [F_is_names_list, B_is_names_list, fnC, sRet, sCons, sIf, sSet, sNil, fAndV, fOrV, fCall, fCons, fVar, fC, fNil, bnd, asB, fNotV, fOp, fUn, fNot, fAnd, fOr, fB, fTr, fChain, fIf, fTup, fLst, fSl, foNone, foSome, e]
  cases d with
  | tup ds =>
    simp only [th, Bool.and_eq_true, decide_eq_true_eq] at hd
    by_cases h : ds.all isN = true
    · obtain ⟨xs, e1, e2⟩ := strs_of h
      have hx : xs.length ≤ 4000 := by omega
      have e3 : oLenSet (.tup ds) S = some (.int (dedupS xs).length, S) := by
        simp [oLenSet, e1, hx]
      have e4 : bLen [.tup ds] S = some (.int ds.length, S) := by simp [bLen, seqOf]
      have e5 : oEqX (.int (dedupS xs).length) (.int ds.length) S = some (.bl (((dedupS xs).length : Int) == ds.length), S) := rfl
      simp [tupAll, h, e3, e4, e5, closeV_bl hS, nmlB, e1]
      rfl
    · rw [Bool.not_eq_true] at h
      simp [tupAll, h, closeV_bl hS, nmlB]
  | _ => simp [tupAll, nmlB, closeV_bl hS]
end
end K00

set_option Elab.async false
set_option linter.all false
set_option maxRecDepth 100000
set_option autoImplicit false
set_option maxHeartbeats 2000000
namespace K00
open PySem L2 Mir
variable {S : Store} {d : D}
/-! ### the bag -/
def Bag (o : O) : Prop := ∃ (a b c : Int) (cells : List Int), cells.length ≤ 63 ∧ o = .lst [.int a, .int b, .int c, .lst (cells.map .int)]
theorem ints_blw : ∀ ns : List Int, D.blws 0 (ns.map .int) = true
  | [] => rfl
  | n :: ns => by
    rw [List.map_cons]
    simp only [D.blws, D.blw, Bool.true_and]
    exact ints_blw ns
theorem Bag.blw {o : O} (h : Bag o) : o.blw 0 = true := by
  obtain ⟨a, b, c, cells, _, rfl⟩ := h
  simp [O.blw, D.blws, D.blw, ints_blw]
theorem cut_ints (cells : List Int) (c : Int) : ∃ ys : List Int, cutD (cells.map .int) (some c) none = ys.map .int := by
  refine ⟨(cells.drop (HT.sIx cells.length 0 (some c))).take (HT.sIx cells.length cells.length none - HT.sIx cells.length 0 (some c)), ?_⟩
  unfold cutD
  rw [List.length_map, List.map_take, List.map_drop]
/-- the first of what is left, or 0 -/
theorem cell_ok {cells : List Int} (c : Int) (hl : cells.length ≤ 63) : ∃ z : Int, ∃ ys : List Int, cutD (cells.map .int) (some c) none = ys.map .int ∧ ys.length ≤ 63 ∧ oIx (.lst (ys.map .int ++ [.int 0])) (.int 0) S = some (.int z, S) := by
  obtain ⟨ys, e⟩ := cut_ints cells c
  have hly : ys.length ≤ 63 := by
    have := congrArg List.length e
    rw [List.length_map] at this
    rw [← this]
    unfold cutD
    rw [List.length_take, List.length_drop, List.length_map]
    omega
  cases ys with
  | nil => exact ⟨0, [], e, hly, by simp [oIx, seqOf, atI_zero]⟩
  | cons y r => exact ⟨y, y :: r, e, hly, by simp [oIx, seqOf, atI_zero]⟩
theorem mul_r {i j : Int} (h : j.natAbs ≤ 18446744073709551615) : oMul (.int i) (.int j) S = some (.int (i * j), S) := by
  have e : Nat.ble j.natAbs 18446744073709551615 = true := Nat.ble_eq_true_of_le h
  simp only [oMul, oI, e, Bool.or_true, if_true]
theorem mul_l {i j : Int} (h : i.natAbs ≤ 18446744073709551615) : oMul (.int i) (.int j) S = some (.int (i * j), S) := by
  have e : Nat.ble i.natAbs 18446744073709551615 = true := Nat.ble_eq_true_of_le h
  simp only [oMul, oI, e, Bool.true_or, if_true]
theorem div_ok {i j : Int} (h0 : j ≠ 0) (h1 : j.natAbs < 1073741824) : oDiv (.int i) (.int j) S = some (.int (i.fdiv j), S) := by
  simp only [oDiv, oI, h0, h1, ne_eq, not_false_eq_true, decide_true, Bool.and_self, if_true]
theorem mod_ok {i j : Int} (h0 : j ≠ 0) : oMod (.int i) (.int j) S = some (.int (i.fmod j), S) := by
  simp only [oMod, oI, h0, ne_eq, not_false_eq_true, decide_true, if_true]
theorem add_ok {i j : Int} : oAdd (.int i) (.int j) S = some (.int (i + j), S) := rfl
theorem sub_ok {i j : Int} : oSub (.int i) (.int j) S = some (.int (i - j), S) := rfl
theorem eq_int {i j : Int} : oEqX (.int i) (.int j) S = some (.bl (i == j), S) := rfl
theorem ge_ok {i j : Int} : oGe (.int i) (.int j) S = some (.bl (decide (j ≤ i)), S) := rfl
theorem gt_ok {i j : Int} : oGt (.int i) (.int j) S = some (.bl (decide (j < i)), S) := rfl
theorem pow18 : oPow (.int 10) (.int 18) S = some (.int 1000000000000000000, S) := rfl
theorem int_ok {i : Int} : bInt [.int i] S = some (.int i, S) := rfl
section
variable {x0 x1 x2 x3 v : D} {r : Store}
theorem rb0 : oIx (.loc 0) (.int 0) (.lst [x0, x1, x2, x3] :: r) = some (x0, .lst [x0, x1, x2, x3] :: r) := rfl
theorem rb1 : oIx (.loc 0) (.int 1) (.lst [x0, x1, x2, x3] :: r) = some (x1, .lst [x0, x1, x2, x3] :: r) := rfl
theorem rb2 : oIx (.loc 0) (.int 2) (.lst [x0, x1, x2, x3] :: r) = some (x2, .lst [x0, x1, x2, x3] :: r) := rfl
theorem rb3 : oIx (.loc 0) (.int 3) (.lst [x0, x1, x2, x3] :: r) = some (x3, .lst [x0, x1, x2, x3] :: r) := rfl
theorem rn2 : oIxN (.loc 0) (.int 2) (.lst [x0, x1, x2, x3] :: r) = some (x2, .lst [x0, x1, x2, x3] :: r) := rfl
theorem wb0 : ixSet (.lst [x0, x1, x2, x3] :: r) (.loc 0) (.int 0) v = some (.lst [v, x1, x2, x3] :: r) := rfl
theorem wb1 : ixSet (.lst [x0, x1, x2, x3] :: r) (.loc 0) (.int 1) v = some (.lst [x0, v, x2, x3] :: r) := rfl
theorem wb2 : ixSet (.lst [x0, x1, x2, x3] :: r) (.loc 0) (.int 2) v = some (.lst [x0, x1, v, x3] :: r) := rfl
end
theorem take_ok {o : O} {r : Store} {m : Int} (hB : Bag o) (hS : SOk (o :: r)) (h0 : 0 < m) (h1 : m < 1000000000) : ∃ v o', 0 ≤ v ∧ v < m ∧ Bag o' ∧ F__law_take [.loc 0, .int m] (o :: r) = some (.int v, o' :: r) := by
  obtain ⟨a, b, c, cells, hl, rfl⟩ := hB
  obtain ⟨z, ys, e1, e2, e3⟩ := cell_ok (S := .lst [.int a, .int b, .int c, .lst (cells.map .int)] :: r) c hl
  have sl := sizeLine_le
  have s1 : 1 ≤ sizeLine := by omega
  have m0 : m ≠ 0 := by omega
  have ma : m.natAbs < 1073741824 := by omega
  have el : oAdd (.lst (cutD (cells.map .int) (some c) none)) (.lst [.int 0]) (.lst [.int a, .int b, .int c, .lst (cells.map .int)] :: r) = some (.lst (ys.map .int ++ [.int 0]), .lst [.int a, .int b, .int c, .lst (cells.map .int)] :: r) := by
    rw [e1]
    simp [oAdd]
    omega
  have stage : ∃ x4 x5 a' b' c', (a' = a ∨ a = 0) ∧ sIf (fB (fOp oEqX (fOp oIx (fVar 0) (fC (.int 0))) (fC (.int 0)))) (sCons (sSet 4 (fOp oIx (fOp oAdd (fSl (fOp oIx (fVar 0) (fC (.int 3))) (foSome (fOp oIx (fVar 0) (fC (.int 2)))) (foNone)) (fLst (fCons (fC (.int 0)) (fNil)))) (fC (.int 0)))) (sCons (sAugN (fVar 0) (fC (.int 2)) (oI (fun _ _ => true) fun i j => .int (i + j)) (fC (.int 1))) (sCons (sIf (fB (fOp oGe (fVar 4) (fOp oPow (fC (.int 10)) (fC (.int 18))))) (sSub (fVar 4) (fVar 0) (fC (.int 0))) (sNil)) (sCons (sSet 5 (fOp oAdd (fOp oAdd (fOp oMul (fOp oIx (fVar 0) (fC (.int 1))) (fC (.int 48271))) (fOp oMod (fCall bInt (fCons (fVar 4) (fNil))) (fC (.int 2147483647)))) (fOp oMul (fC (.int 7919)) (fOp oIx (fVar 0) (fC (.int 2)))))) (sSub (fOp oMod (fCall bInt (fCons (fVar 5) (fNil))) (fC (.int 2147483647))) (fVar 0) (fC (.int 1))))))) (sNil)
      [some (.loc 0), some (.int m), none, none, none, none, none] (.lst [.int a, .int b, .int c, .lst (cells.map .int)] :: r) = some (.nx [some (.loc 0), some (.int m), none, none, x4, x5, none], .lst [.int a', .int b', .int c', .lst (cells.map .int)] :: r) := by
    by_cases ha : a = 0
    · subst ha
      by_cases hz : 1000000000000000000 ≤ z
      · refine ⟨some (.int z), some (.int (b * 48271 + z.fmod 2147483647 + 7919 * (c + 1))), z, (b * 48271 + z.fmod 2147483647 + 7919 * (c + 1)).fmod 2147483647, c + 1, .inr rfl, ?_⟩
        simp [fnC, sRet, sCons, sIf, sSet, sNil, fAndV, fOrV, fCall, fCons, fVar, fC, fNil, bnd, asB, fNotV, fOp, fUn, fNot, fAnd, fOr, fB, fTr, fChain, fIf, fTup, fLst, fSl, foNone, foSome, rb0, rb1, rb2, rb3, rn2, wb0, wb1, wb2, eq_int, oSl, lsOf, asI, s1, el, e3, sAugN, oI, pow18, ge_ok, hz, sSub, mul_r, mul_l, mod_ok, add_ok, int_ok]
      · refine ⟨some (.int z), some (.int (b * 48271 + z.fmod 2147483647 + 7919 * (c + 1))), 0, (b * 48271 + z.fmod 2147483647 + 7919 * (c + 1)).fmod 2147483647, c + 1, .inr rfl, ?_⟩
        simp [fnC, sRet, sCons, sIf, sSet, sNil, fAndV, fOrV, fCall, fCons, fVar, fC, fNil, bnd, asB, fNotV, fOp, fUn, fNot, fAnd, fOr, fB, fTr, fChain, fIf, fTup, fLst, fSl, foNone, foSome, rb0, rb1, rb2, rb3, rn2, wb0, wb1, wb2, eq_int, oSl, lsOf, asI, s1, el, e3, sAugN, oI, pow18, ge_ok, hz, sSub, mul_r, mul_l, mod_ok, add_ok, int_ok]
    · refine ⟨none, none, a, b, c, .inl rfl, ?_⟩
      simp [fnC, sRet, sCons, sIf, sSet, sNil, fAndV, fOrV, fCall, fCons, fVar, fC, fNil, bnd, asB, fNotV, fOp, fUn, fNot, fAnd, fOr, fB, fTr, fChain, fIf, fTup, fLst, fSl, foNone, foSome, rb0, eq_int, ha]
  obtain ⟨x4, x5, a', b', c', _, e4⟩ := stage
  have hS' : ∀ (p q s : Int), SOk (.lst [.int p, .int q, .int s, .lst (cells.map .int)] :: r) := fun p q s => hS.head (Bag.blw ⟨p, q, s, cells, hl, rfl⟩)
  by_cases hp : 0 < a'
  · refine ⟨a'.fmod m, .lst [.int (a'.fdiv m), .int b', .int c', .lst (cells.map .int)], Int.fmod_nonneg_of_pos _ h0, Int.fmod_lt_of_pos _ h0, ⟨_, _, _, cells, hl, rfl⟩, ?_⟩
    have cl : closeV (r.length + 1) (.int (a'.fmod m)) (.lst [.int (a'.fdiv m), .int b', .int c', .lst (cells.map .int)] :: r) = some (.int (a'.fmod m), .lst [.int (a'.fdiv m), .int b', .int c', .lst (cells.map .int)] :: r) := closeV_val (hS' (a'.fdiv m) b' c') (by simp only [D.blw])
    show fnC closeV 7 2 B__law_take _ _ = _
    unfold B__law_take
    simp only [fnC, List.length_cons, List.length_nil, List.map_cons, List.map_nil, List.cons_append, List.nil_append, List.replicate, if_true]
    rw [run_cons e4]
    simp [fnC, sRet, sCons, sIf, sSet, sNil, fAndV, fOrV, fCall, fCons, fVar, fC, fNil, bnd, asB, fNotV, fOp, fUn, fNot, fAnd, fOr, fB, fTr, fChain, fIf, fTup, fLst, fSl, foNone, foSome, rb0, rb1, rb2, rb3, wb0, wb1, wb2, gt_ok, hp, mod_ok m0, div_ok m0 ma, int_ok, sSub, cl]
  · have fl : ∀ x : Int, (x.fmod 1000000007).natAbs ≤ 18446744073709551615 := fun x => by
      have h1 := Int.fmod_nonneg_of_pos x (show (0 : Int) < 1000000007 by omega)
      have h2 := Int.fmod_lt_of_pos x (show (0 : Int) < 1000000007 by omega)
      omega
    have cl : ∀ v : Int, closeV (r.length + 1) (.int v) (.lst [.int a', .int b', .int c', .lst (cells.map .int)] :: r) = some (.int v, .lst [.int a', .int b', .int c', .lst (cells.map .int)] :: r) := fun v => closeV_val (hS' a' b' c') (by simp only [D.blw])
    refine ⟨((((((b' + 1) * 39373).fmod 1000000007 * ((b' + 1) * 39373).fmod 1000000007).fmod 998244353 * 30011).fmod 998244353).fdiv 7).fmod m, .lst [.int a', .int b', .int c', .lst (cells.map .int)], Int.fmod_nonneg_of_pos _ h0, Int.fmod_lt_of_pos _ h0, ⟨_, _, _, cells, hl, rfl⟩, ?_⟩
    show fnC closeV 7 2 B__law_take _ _ = _
    unfold B__law_take
    simp only [fnC, List.length_cons, List.length_nil, List.map_cons, List.map_nil, List.cons_append, List.nil_append, List.replicate, if_true]
    rw [run_cons e4]
    simp [fnC, sRet, sCons, sIf, sSet, sNil, fAndV, fOrV, fCall, fCons, fVar, fC, fNil, bnd, asB, fNotV, fOp, fUn, fNot, fAnd, fOr, fB, fTr, fChain, fIf, fTup, fLst, fSl, foNone, foSome, rb0, rb1, rb2, rb3, wb0, wb1, wb2, gt_ok, hp, mod_ok, m0, div_ok, int_ok, sSub, cl, mul_r, mul_l, add_ok, fl]
end K00

set_option Elab.async false
set_option linter.all false
set_option maxRecDepth 100000
set_option autoImplicit false
set_option maxHeartbeats 2000000
namespace K00
open PySem L2 Mir
variable {S : Store} {d : D}
theorem len_lst {xs : List D} : bLen [.lst xs] S = some (.int xs.length, S) := rfl
theorem some_ok {o : O} {r : Store} {xs : List D} (hB : Bag o) (hS : SOk (o :: r)) (h0 : xs ≠ []) (h1 : xs.length ≤ 1000) (hx : ∀ y ∈ xs, y.blw 0 = true) : ∃ y o', y ∈ xs ∧ Bag o' ∧ F__law_some [.loc 0, .lst xs] (o :: r) = some (y, o' :: r) := by
  have hp : 0 < xs.length := List.length_pos_iff.mpr h0
  obtain ⟨v, o', v0, v1, hB', e⟩ := take_ok (m := (xs.length : Int)) hB hS (by omega) (by omega)
  obtain ⟨i, rfl⟩ : ∃ i : Nat, v = (i : Int) := ⟨v.toNat, by omega⟩
  have hi : i < xs.length := by omega
  have e2 : ∀ S', oIx (.lst xs) (.int (i : Int)) S' = some (xs[i], S') := fun S' => by
    have e9 : atI xs (i : Int) = some xs[i] := atI_nat (List.getElem?_eq_getElem hi)
    simp only [oIx, seqOf, Option.bind_some, e9, Option.map_some]
  have hm : xs[i] ∈ xs := List.getElem_mem hi
  have cl : closeV (r.length + 1) xs[i] (o' :: r) = some (xs[i], o' :: r) := closeV_val (hS.head hB'.blw) (hx _ hm)
  refine ⟨xs[i], o', hm, hB', ?_⟩
  simp [F__law_some, B__law_some, fnC, sRet, sCons, sIf, sSet, sNil, fAndV, fOrV, fCall, fCons, fVar, fC, fNil, bnd, asB, fNotV, fOp, fUn, fNot, fAnd, fOr, fB, fTr, fChain, fIf, fTup, fLst, fSl, foNone, foSome, len_lst, e, e2, cl]
def odds : List D := [.int (0), .int (1), .int (2), .int (9), .int (12), .int (13), .int (20), .int (30), .int (59), .int (60), .int (61), .int (199), .int (200), .int (400), .int (401), .int (999), .int (1000), .int (-1), .int (1000000000000000000000000000000), .bl true, .bl false, .non, .int (-7), .str "", .str "a", .str "z9", .str "A", .str "9a", .str "a_b", .str "abcdefgh", .str "abcdefghi", .str "end", .str "rule", .str "none", .str "put", .str "take", .str "cut", .str "rules", .tup [], .tup [.int (0)], .tup [.int (1), .int (2)], .tup [.int (2), .int (1)], .tup [.int (1), .int (1)], .tup [.int (12)], .tup [.int (13)], .tup [.str "a", .str "b"], .tup [.str "b", .str "a"], .tup [.str "a", .str "a"], .tup [.bl true], .lst [], .lst [.int (1), .int (2)], .dic [] [], .tup [.tup []]]
theorem odds_th : ths odds = true := by decide +kernel
theorem odds_len : odds.length ≤ 100 := by decide
theorem odds_ne : odds ≠ [] := by decide
theorem pow30 : oPow (.int 10) (.int 30) S = some (.int (10 ^ 30), S) := rfl
theorem ev_odds (hS : SOk S) : F__law_odds [] S = some (.lst odds, S) := by
  have sl := sizeLine_le
  have b : ∀ n : Nat, n ≤ 100 → n ≤ sizeLine := fun n h => by omega
  have cl : closeV S.length (.lst odds) S = some (.lst odds, S) := closeV_val hS (by
    have := ths_blw odds odds_th
    simpa only [D.blw] using this)
  unfold odds at cl ⊢
  simp [F__law_odds, B__law_odds, fnC, sRet, sCons, sIf, sSet, sNil, fAndV, fOrV, fCall, fCons, fVar, fC, fNil, bnd, asB, fNotV, fOp, fUn, fNot, fAnd, fOr, fB, fTr, fChain, fIf, fTup, fLst, fSl, foNone, foSome, b, oNeg, pow30, oAdd, fDic0, cl]
def reprOk (p : PyData) : Bool := p.showable && !p.hasDict && decide (p.depth ≤ 60) && decide (p.shown.length ≤ sizeLine) && SeqAt.shaped (.str p.shown) && SeqAt.shaped p && PyData.eqv p p
theorem alike_of {d : D} {p : PyData} (hS : SOk S) (hd : (rdS S d).py = some p) (hk : reprOk p = true) : F__law_alike [d, d] S = some (.bl true, S) := by
  unfold reprOk at hk
  rw [Bool.and_eq_true, Bool.and_eq_true, Bool.and_eq_true] at hk
  obtain ⟨⟨⟨h1, h4⟩, h2⟩, h3⟩ := hk
  have e1 : bRepr [d] S = some (.str p.shown, S) := by
    unfold bRepr
    simp only [hd, Option.bind_some]
    rw [if_pos h1]
  have e2 : oEqX (.str p.shown) (.str p.shown) S = some (.bl true, S) := by
    have : oEq (.str p.shown) (.str p.shown) S = some (.bl true, S) := by
      have h5 : PyData.eqv (.str p.shown) (.str p.shown) = true := beq_self_eq_true p.shown
      unfold oEq oEqN
      simp only [rdS, D.py, h4, h5, Bool.and_self, if_true]
      rfl
    unfold oEqX
    rw [this]
    rfl
  have e3 : oEqX d d S = some (.bl true, S) := by
    have : oEq d d S = some (.bl true, S) := by
      unfold oEq oEqN
      simp only [hd, h2, h3, Bool.and_self, if_true]
      rfl
    unfold oEqX
    rw [this]
    rfl
  simp [F__law_alike, B__law_alike, fnC, sRet, sCons, sIf, sSet, sNil, fAndV, fOrV, fCall, fCons, fVar, fC, fNil, bnd, asB, fNotV, fOp, fUn, fNot, fAnd, fOr, fB, fTr, fChain, fIf, fTup, fLst, fSl, foNone, foSome, e1, e2, e3, closeV_bl hS]
theorem ok6 : ∀ a b c d e f : Bool, reprOk (.list [.bool a, .bool b, .bool c, .bool d, .bool e, .bool f]) = true := by decide +kernel
theorem ok3 : ∀ a b c : Bool, reprOk (.list [.bool a, .bool b, .bool c]) = true := by decide +kernel
theorem alike6 {a b c d e f : Bool} (hS : SOk S) : F__law_alike [.lst [.bl a, .bl b, .bl c, .bl d, .bl e, .bl f], .lst [.bl a, .bl b, .bl c, .bl d, .bl e, .bl f]] S = some (.bl true, S) := alike_of hS rfl (ok6 a b c d e f)
theorem alike3 {a b c : Bool} (hS : SOk S) : F__law_alike [.lst [.bl a, .bl b, .bl c], .lst [.bl a, .bl b, .bl c]] S = some (.bl true, S) := alike_of hS rfl (ok3 a b c)
end K00

set_option Elab.async false
set_option linter.all false
set_option maxRecDepth 100000
set_option autoImplicit false
set_option maxHeartbeats 2000000
namespace K00
open PySem L2 Mir
variable {S : Store} {d : D}
theorem cutI (l : List Int) (lo hi : Option Int) : cutD (l.map .int) lo hi = ((l.drop (HT.sIx l.length 0 lo)).take (HT.sIx l.length l.length hi - HT.sIx l.length 0 lo)).map .int := by
  unfold cutD
  rw [List.length_map, List.map_take, List.map_drop]
def absI (i : Int) : Int := if i < 0 then -i else i
theorem bag_ok {ns : List Int} (hl : ns.length ≤ 63) : ∃ o, Bag o ∧ F__law_bag [.fro (ns.map .int)] [] = some (.loc 0, [o]) := by
  have sl := sizeLine_le
  have s4 : 4 ≤ sizeLine := by omega
  obtain ⟨ys, ey⟩ : ∃ ys, ys = (ns.drop (HT.sIx ns.length 0 none)).take (HT.sIx ns.length ns.length (some 63) - HT.sIx ns.length 0 none) := ⟨_, rfl⟩
  have ly : ys.length ≤ 63 := by
    rw [ey, List.length_take, List.length_drop]
    omega
  have elc : fLc (fIt gSeq (fSl (fVar 0) foNone (foSome (fC (.int 63))))) (tgN 1) tYesF (fCall bAbs (fCons (fVar 1) fNil)) [1] [some (.fro (ns.map .int)), none] [] = some (.lst ((ys.map absI).map .int), []) := by
    rw [fLc_map (ds := ys.map .int) (fun d => match d with
      | .int i => .int (absI i)
      | _ => .non) SOk.nil ?_ (fun d hd => ?_) (by rw [List.length_map]; omega)]
    · simp [Function.comp_def]
    · have e : oSl (.fro (ns.map .int)) none (some 63) [] = some (.lst (ys.map .int), []) := by
        simp only [oSl, lsOf, Option.map_some]
        rw [cutI, ← ey]
      simp [fIt, fnC, sRet, sCons, sIf, sSet, sNil, fAndV, fOrV, fCall, fCons, fVar, fC, fNil, bnd, asB, fNotV, fOp, fUn, fNot, fAnd, fOr, fB, fTr, fChain, fIf, fTup, fLst, fSl, foNone, foSome, asI, e, gSeq]
    · obtain ⟨i, hi, rfl⟩ := List.mem_map.mp hd
      refine ⟨[some (.fro (ns.map .int)), some (.int i)], fun S' hS' => ⟨rfl, ?_, rfl⟩⟩
      simp [fnC, sRet, sCons, sIf, sSet, sNil, fAndV, fOrV, fCall, fCons, fVar, fC, fNil, bnd, asB, fNotV, fOp, fUn, fNot, fAnd, fOr, fB, fTr, fChain, fIf, fTup, fLst, fSl, foNone, foSome, bAbs, absI]
  have hB : Bag (.lst [.int 0, .int 1234567891, .int 0, .lst ((ys.map absI).map .int)]) := ⟨_, _, _, ys.map absI, by rw [List.length_map]; exact ly, rfl⟩
  have hb := hB.blw
  refine ⟨_, hB, ?_⟩
  generalize ((ys.map absI).map D.int) = zs at elc hb ⊢
  have cl : closeP 0 (.loc 0) [.lst [.int 0, .int 1234567891, .int 0, .lst zs]] = some (.loc 0, [.lst [.int 0, .int 1234567891, .int 0, .lst zs]]) := by
    unfold closeP
    simp [hb]
  simp [F__law_bag, B__law_bag, fnC, sRet, sCons, sIf, sSet, sNil, fAndV, fOrV, fCall, fCons, fVar, fC, fNil, bnd, asB, fNotV, fOp, fUn, fNot, fAnd, fOr, fB, fTr, fChain, fIf, fTup, fLst, fSl, foNone, foSome, fLstM, elc, s4, cl]
def words : List D := [.str "above", .str "end", .str "entries", .str "least", .str "lengths", .str "none", .str "of", .str "reach", .str "room", .str "rule", .str "shelf", .str "slots", .str "x", .str "ends", .str "rules", .str "of1"]
def signs : Str := "abyz019AZ_ \n"
def Env4 (sc : D) (e : Mir.Env) : Prop := ∃ x4 x5 x6 x7 x8 x9 x10 x11 x12 x13 x14 x15 x16 : Option D, e = [some sc, some (.loc 0), some (.lst words), some (.str signs), x4, x5, x6, x7, x8, x9, x10, x11, x12, x13, x14, x15, x16]
def JS (sc : D) (e : Mir.Env) (S : Store) : Prop := Env4 sc e ∧ ∃ o, S = [o] ∧ Bag o
theorem Bag.ok {o : O} (h : Bag o) : SOk [o] := by
  unfold SOk
  simp only [List.all_cons, List.all_nil, Bool.and_true]
  exact O.blw_mono (Nat.zero_le _) o h.blw
/-- one sign of a text -/
def one1 (d : D) : Prop := ∃ c, d = .str ⟨#[c]⟩
theorem strs_one : ∀ {ys : List D}, (∀ y ∈ ys, one1 y) → ∃ ss : List Str, asStrs ys = some ss ∧ ss.length = ys.length ∧ ∀ s ∈ ss, s.length = 1
  | [], _ => ⟨[], rfl, rfl, nofun⟩
  | y :: ys, h => by
    obtain ⟨ss, e1, e2, e3⟩ := strs_one (ys := ys) fun z hz => h z (List.mem_cons_of_mem _ hz)
    obtain ⟨c, rfl⟩ := h y List.mem_cons_self
    refine ⟨⟨#[c]⟩ :: ss, by show (asStrs ys).map _ = _; rw [e1]; rfl, by simp [e2], fun s hs => ?_⟩
    rcases List.mem_cons.mp hs with rfl | hs
    · rfl
    · exact e3 s hs
theorem sum_ones : ∀ {ss : List Str}, (∀ s ∈ ss, s.length = 1) → (ss.map (·.length)).sum = ss.length
  | [], _ => rfl
  | s :: ss, h => by
    rw [List.map_cons, List.sum_cons, h s List.mem_cons_self, sum_ones fun z hz => h z (List.mem_cons_of_mem _ hz)]
    simp
    omega
theorem join_th {ys : List D} {S : Store} (h : ∀ y ∈ ys, one1 y) (hl : ys.length ≤ 100) : ∃ z : Str, th (.str z) = true ∧ mJoin (.str "") (.lst ys) S = some (.str z, S) := by
  obtain ⟨ss, e1, e2, e3⟩ := strs_one h
  have e4 := PySem.W.KT.join_ones ss e3
  refine ⟨Txt.join "" ss, ?_, ?_⟩
  · simp only [th, decide_eq_true_eq]
    rw [e4]
    omega
  · have e5 := sum_ones e3
    have e6 : ("" : Str).length = 0 := by decide
    have hh : (ss.map (·.length)).sum + ss.length * ("" : Str).length ≤ 16777216 := by rw [e5, e6]; omega
    simp only [mJoin, lsOf, Option.bind_some, e1]
    rw [if_pos hh]
theorem take_wd {o : O} {r : Store} {m : Int} {Q : D → Store → Prop} (hB : Bag o) (hS : SOk (o :: r)) (h0 : 0 < m) (h1 : m < 1000000000) (k : ∀ v o', 0 ≤ v → v < m → Bag o' → Q (.int v) (o' :: r)) : Wd (F__law_take [.loc 0, .int m] (o :: r)) Q := by
  obtain ⟨v, o', a, b, c, e⟩ := take_ok hB hS h0 h1
  exact wd_of e (k v o' a b c)
theorem some_wd {o : O} {r : Store} {xs : List D} {Q : D → Store → Prop} (hB : Bag o) (hS : SOk (o :: r)) (h0 : xs ≠ []) (h1 : xs.length ≤ 1000) (hx : ∀ y ∈ xs, y.blw 0 = true) (k : ∀ y o', y ∈ xs → Bag o' → Q y (o' :: r)) : Wd (F__law_some [.loc 0, .lst xs] (o :: r)) Q := by
  obtain ⟨y, o', a, b, e⟩ := some_ok hB hS h0 h1 hx
  exact wd_of e (k y o' a b)
theorem sign_len : signs.length = 12 := by decide
theorem name_ok {env : Mir.Env} {o : O} {Q : D → Store → Prop} (h1 : (wipeE env [15])[1]? = some (some (.loc 0))) (h3 : (wipeE env [15])[3]? = some (some (.str signs))) (h15 : env.length = 17) (g1 : env[1]? = some (some (.loc 0))) (hB : Bag o) (k : ∀ z o', th (.str z) = true → Bag o' → Q (.str z) [o']) :
    Wd (fOp mJoin (fC (.str "")) (fLc (fRng1 (fCall F__law_take (fCons (fVar 1) (fCons (fC (.int 11)) (fNil))))) (tgN 15) (tYesF) (fOp oIx (fVar 3) (fCall F__law_take (fCons (fVar 1) (fCons (fCall bLen (fCons (fVar 3) (fNil))) (fNil))))) [15]) env [o]) Q := by
  have sl := sizeLine_le
  obtain ⟨v, o1, v0, v1, hB1, e1⟩ := take_ok (m := 11) hB hB.ok (by omega) (by omega)
  have hi : fRng1 (fCall F__law_take (fCons (fVar 1) (fCons (fC (.int 11)) (fNil)))) env [o] = some (rng 0 v, [o1]) := by
    simp [fRng1, fnC, sRet, sCons, sIf, sSet, sNil, fAndV, fOrV, fCall, fCons, fVar, fC, fNil, bnd, asB, fNotV, fOp, fUn, fNot, fAnd, fOr, fB, fTr, fChain, fIf, fTup, fLst, fSl, foNone, foSome, g1, e1, asI, okR_of (show -1000000 ≤ v by omega) (show v ≤ 1000000 by omega)]
  have lr : (rng 0 v).length ≤ 100 := by
    simp [rng]
    omega
  obtain ⟨ys, o2, hB2, hP, hl, e2⟩ := fLc_draw (J := Bag) (P := one1) (tg := tgN 15) (vs := [15]) (elt := fOp oIx (fVar 3) (fCall F__law_take (fCons (fVar 1) (fCons (fCall bLen (fCons (fVar 3) (fNil))) (fNil))))) (fun o h => h.blw) (fun y ⟨c, e⟩ => by subst e; simp only [D.blw]) hi hB1 hB1.ok (by omega) (fun d hd o r hB hS => by
    obtain ⟨w, o', w0, w1, hB', e⟩ := take_ok (m := 12) hB hS (by omega) (by omega)
    obtain ⟨i, rfl⟩ : ∃ i : Nat, w = (i : Int) := ⟨w.toNat, by omega⟩
    have hi2 : i < signs.cps.toList.length := by
      have : signs.cps.toList.length = 12 := by decide
      omega
    have e9 : atI signs.cps.toList (i : Int) = some signs.cps.toList[i] := atI_nat (List.getElem?_eq_getElem hi2)
    have e8 : ∀ S', oIx (.str signs) (.int (i : Int)) S' = some (.str ⟨#[signs.cps.toList[i]]⟩, S') := fun S' => by
      unfold oIx
      have : signs.length ≤ sizeLine := by rw [sign_len]; omega
      simp only [this, if_true, e9, Option.map_some]
    have e7 : ∀ S', bLen [.str signs] S' = some (.int 12, S') := fun S' => by
      unfold bLen
      have : signs.length ≤ sizeLine := by rw [sign_len]; omega
      simp only [this, if_true, sign_len]
      rfl
    refine ⟨.str ⟨#[signs.cps.toList[i]]⟩, o', (wipeE env [15]).set 15 (some d), ⟨_, rfl⟩, hB', rfl, ?_⟩
    have q1 : ((wipeE env [15]).set 15 (some d))[1]? = some (some (.loc 0)) := by rw [List.getElem?_set_ne (by decide)]; exact h1
    have q3 : ((wipeE env [15]).set 15 (some d))[3]? = some (some (.str signs)) := by rw [List.getElem?_set_ne (by decide)]; exact h3
    simp [fnC, sRet, sCons, sIf, sSet, sNil, fAndV, fOrV, fCall, fCons, fVar, fC, fNil, bnd, asB, fNotV, fOp, fUn, fNot, fAnd, fOr, fB, fTr, fChain, fIf, fTup, fLst, fSl, foNone, foSome, q1, q3, e, e7, e8])
  obtain ⟨z, hz, ez⟩ := join_th (S := [o2]) hP (by omega)
  rw [w_op, w_c]
  exact wd_of e2 (wd_of ez (k z o2 hz hB2))
end K00

set_option Elab.async false
set_option linter.all false
set_option maxRecDepth 100000
set_option autoImplicit false
set_option maxHeartbeats 2000000
namespace K00
open PySem L2 Mir
variable {S : Store} {d : D}
/-- a comprehension over range(take(bag, 4)) whose elements are drawn -/
theorem draws {elt : FE} {P : D → Prop} {env : Mir.Env} {o : O} {Q : D → Store → Prop} (hP : ∀ y, P y → y.blw 0 = true) (g1 : env[1]? = some (some (.loc 0))) (hB : Bag o)
    (he : ∀ d o r, Bag o → SOk (o :: r) → Wd (elt ((wipeE env [15]).set 15 (some d)) (o :: r)) fun y S => P y ∧ ∃ o', Bag o' ∧ S = o' :: r)
    (k : ∀ ys o', (∀ y ∈ ys, P y) → ys.length ≤ 4 → Bag o' → Q (.lst ys) [o']) : Wd (fLc (fRng1 (fCall F__law_take (fCons (fVar 1) (fCons (fC (.int 4)) (fNil))))) (tgN 15) (tYesF) elt [15] env [o]) Q := by
  have sl := sizeLine_le
  obtain ⟨v, o1, v0, v1, hB1, e1⟩ := take_ok (m := 4) hB hB.ok (by omega) (by omega)
  have hi : fRng1 (fCall F__law_take (fCons (fVar 1) (fCons (fC (.int 4)) (fNil)))) env [o] = some (rng 0 v, [o1]) := by
    simp [fRng1, fnC, sRet, sCons, sIf, sSet, sNil, fAndV, fOrV, fCall, fCons, fVar, fC, fNil, bnd, asB, fNotV, fOp, fUn, fNot, fAnd, fOr, fB, fTr, fChain, fIf, fTup, fLst, fSl, foNone, foSome, g1, e1, asI, okR_of (show -1000000 ≤ v by omega) (show v ≤ 1000000 by omega)]
  have lr : (rng 0 v).length ≤ 4 := by
    simp [rng]
    omega
  obtain ⟨ys, o2, hB2, hp, hl, e2⟩ := fLc_draw (J := Bag) (P := P) (tg := tgN 15) (vs := [15]) (elt := elt) (fun o h => h.blw) hP hi hB1 hB1.ok (by omega) (fun d hd o r hB hS => by
    obtain ⟨y, S', e, p, o', b, rfl⟩ := he d o r hB hS
    exact ⟨y, o', _, p, b, rfl, e⟩)
  exact wd_of e2 (k ys o2 hp (by omega) hB2)
theorem th_all {ys : List D} (h : ∀ y ∈ ys, th y = true) (hl : ys.length ≤ 100) : th (.tup ys) = true := by
  simp only [th, Bool.and_eq_true, decide_eq_true_eq]
  exact ⟨hl, ths_mem.mpr h⟩
theorem tuple_of_lst {ys : List D} : bTuple [.lst ys] S = some (.tup ys, S) := rfl
theorem odds_mem : ∀ y ∈ odds, th y = true := ths_mem.mp odds_th
theorem words_str : ∀ y ∈ words, ∃ z : Str, y = .str z ∧ z.length ≤ 100 := by
  intro y hy
  unfold words at hy
  simp only [List.mem_cons, List.not_mem_nil, or_false] at hy
  rcases hy with rfl | rfl | rfl | rfl | rfl | rfl | rfl | rfl | rfl | rfl | rfl | rfl | rfl | rfl | rfl | rfl <;> exact ⟨_, rfl, by decide⟩
theorem words_len : words.length = 16 := by decide
def thing1 : FE := fCall F__law_some (fCons (fVar 1) (fCons (fLst (fCons (fCall F__law_some (fCons (fVar 1) (fCons (fCall F__law_odds fNil) (fNil)))) (fCons (fVar 5) (fCons (fCall F__law_some (fCons (fVar 1) (fCons (fVar 2) (fNil)))) (fCons (fCall bTuple (fCons (fLc (fRng1 (fCall F__law_take (fCons (fVar 1) (fCons (fC (.int 4)) (fNil))))) (tgN 15) (tYesF) (fCall F__law_some (fCons (fVar 1) (fCons (fCall F__law_odds fNil) (fNil)))) [15]) (fNil))) (fNil)))))) (fNil)))
theorem th0 {y : D} (h : th y = true) : y.blw 0 = true := th_blw y h
theorem odds_wd {Q : D → Store → Prop} (hS : SOk S) (k : Q (.lst odds) S) : Wd (F__law_odds [] S) Q := wd_of (ev_odds hS) k
theorem thing1_ok {env : Mir.Env} {o : O} {z : Str} {Q : D → Store → Prop} (g1 : env[1]? = some (some (.loc 0))) (g2 : env[2]? = some (some (.lst words))) (g5 : env[5]? = some (some (.str z))) (hz : th (.str z) = true) (q1 : ∀ d, ((wipeE env [15]).set 15 (some d))[1]? = some (some (.loc 0))) (hB : Bag o)
    (k : ∀ y o', th y = true → Bag o' → Q y [o']) : Wd (thing1 env [o]) Q := by
  have sl := sizeLine_le
  unfold thing1
  simp only [w_call, w_consA, w_nil, w_lst, w_var g1, w_var g2, w_var g5]
  refine odds_wd hB.ok ?_
  refine some_wd hB hB.ok odds_ne (by have := odds_len; omega) (fun y hy => th0 (odds_mem y hy)) fun y1 o1 hy1 hB1 => ?_
  refine some_wd hB1 hB1.ok (by decide) (by decide) (fun y hy => by obtain ⟨z, rfl, _⟩ := words_str y hy; simp only [D.blw]) fun y2 o2 hy2 hB2 => ?_
  refine draws (P := fun y => th y = true) (fun y h => th0 h) g1 hB2 (fun d o r hB hS => ?_) fun ys o3 hys hl hB3 => ?_
  · simp only [w_call, w_consA, w_nil, w_var (q1 d)]
    refine odds_wd hS ?_
    exact some_wd hB hS odds_ne (by have := odds_len; omega) (fun y hy => th0 (odds_mem y hy)) fun y1 o1 hy1 hB1 => ⟨odds_mem y1 hy1, o1, hB1, rfl⟩
  · refine wd_of tuple_of_lst ?_
    refine ⟨by simp; omega, ?_⟩
    have h2 : th y2 = true := by
      obtain ⟨z, rfl, hz⟩ := words_str y2 hy2
      simpa [th] using hz
    have ht : ∀ y ∈ [y1, D.str z, y2, D.tup ys], th y = true := by
      intro y hy
      simp only [List.mem_cons, List.not_mem_nil, or_false] at hy
      rcases hy with rfl | rfl | rfl | rfl
      · exact odds_mem _ hy1
      · exact hz
      · exact h2
      · exact th_all hys (by omega)
    exact some_wd hB3 hB3.ok (by simp) (by simp) (fun y hy => th0 (ht y hy)) fun y o4 hy hB4 => k y o4 (ht y hy) hB4
end K00

set_option Elab.async false
set_option linter.all false
set_option maxRecDepth 100000
set_option autoImplicit false
set_option maxHeartbeats 2000000
namespace K00
open PySem L2 Mir
variable {S : Store} {d : D}
theorem ints_of : ∀ {ys : List D}, (∀ y ∈ ys, ∃ i, y = .int i) → ∃ ns, asInts ys = some ns ∧ ns.length = ys.length
  | [], _ => ⟨[], rfl, rfl⟩
  | y :: ys, h => by
    obtain ⟨ns, e1, e2⟩ := ints_of (ys := ys) fun z hz => h z (List.mem_cons_of_mem _ hz)
    obtain ⟨i, rfl⟩ := h y List.mem_cons_self
    exact ⟨i :: ns, by show (asInts ys).map _ = _; rw [e1]; rfl, by simp [e2]⟩
theorem strs_of2 : ∀ {ys : List D}, (∀ y ∈ ys, ∃ z : Str, y = .str z ∧ z.length ≤ 100) → ∃ ss : List Str, asStrs ys = some ss ∧ ss.length = ys.length ∧ ∀ s ∈ ss, s.length ≤ 100
  | [], _ => ⟨[], rfl, rfl, nofun⟩
  | y :: ys, h => by
    obtain ⟨ss, e1, e2, e3⟩ := strs_of2 (ys := ys) fun z hz => h z (List.mem_cons_of_mem _ hz)
    obtain ⟨z, rfl, hz⟩ := h y List.mem_cons_self
    refine ⟨z :: ss, by show (asStrs ys).map _ = _; rw [e1]; rfl, by simp [e2], fun s hs => ?_⟩
    rcases List.mem_cons.mp hs with rfl | hs
    · exact hz
    · exact e3 s hs
theorem sortI {ys : List D} (h : ∀ y ∈ ys, ∃ i, y = .int i) (hl : ys.length ≤ 4) : ∃ zs, bSorted [.lst ys] S = some (.lst zs, S) ∧ (∀ z ∈ zs, th z = true) ∧ zs.length ≤ 4 := by
  obtain ⟨ns, e1, e2⟩ := ints_of h
  refine ⟨(sortZ ns).map .int, ?_, ?_, ?_⟩
  · have : ys.length < 64 := by omega
    simp [bSorted, lsOf, e1, this]
  · intro z hz
    obtain ⟨i, _, rfl⟩ := List.mem_map.mp hz
    rfl
  · rw [List.length_map, (sortZ_perm ns).length_eq]
    omega
theorem sortW {ys : List D} (h : ∀ y ∈ ys, ∃ z : Str, y = .str z ∧ z.length ≤ 100) (hl : ys.length ≤ 4) : ∃ zs, bSorted [.lst ys] S = some (.lst zs, S) ∧ (∀ z ∈ zs, th z = true) ∧ zs.length ≤ 4 := by
  obtain ⟨ss, e1, e2, e3⟩ := strs_of2 h
  have h64 : ys.length < 64 := by omega
  cases e : asInts ys with
  | some ns =>
    refine ⟨(sortZ ns).map .int, by simp [bSorted, lsOf, e, h64], ?_, ?_⟩
    · intro z hz
      obtain ⟨i, _, rfl⟩ := List.mem_map.mp hz
      rfl
    · rw [List.length_map, (sortZ_perm ns).length_eq, ← asInts_map e]
      omega
  | none =>
    refine ⟨(sortS ss).map .str, by simp [bSorted, lsOf, e, e1, h64], ?_, ?_⟩
    · intro z hz
      obtain ⟨i, hi, rfl⟩ := List.mem_map.mp hz
      have hi2 := (List.mergeSort_perm ss leS).mem_iff.mp hi
      simpa [th] using e3 i hi2
    · have := (List.mergeSort_perm ss leS).length_eq
      rw [List.length_map]
      show ((ss.mergeSort leS)).length ≤ 4
      omega
def thing2 : FE := fCall F__law_some (fCons (fVar 1) (fCons (fLst (fCons (fVar 6) (fCons (fVar 6) (fCons (fCall bTuple (fCons (fCall bSorted (fCons (fLc (fRng1 (fCall F__law_take (fCons (fVar 1) (fCons (fC (.int 4)) (fNil))))) (tgN 15) (tYesF) (fCall F__law_take (fCons (fVar 1) (fCons (fC (.int 9)) (fNil)))) [15]) (fNil))) (fNil))) (fCons (fCall bTuple (fCons (fCall bSorted (fCons (fLc (fRng1 (fCall F__law_take (fCons (fVar 1) (fCons (fC (.int 4)) (fNil))))) (tgN 15) (tYesF) (fCall F__law_some (fCons (fVar 1) (fCons (fVar 2) (fNil)))) [15]) (fNil))) (fNil))) (fNil)))))) (fNil)))
theorem thing2_ok {env : Mir.Env} {o : O} {t : D} {Q : D → Store → Prop} (g1 : env[1]? = some (some (.loc 0))) (g6 : env[6]? = some (some t)) (ht : th t = true) (q1 : ∀ d, ((wipeE env [15]).set 15 (some d))[1]? = some (some (.loc 0))) (q2 : ∀ d, ((wipeE env [15]).set 15 (some d))[2]? = some (some (.lst words))) (hB : Bag o)
    (k : ∀ y o', th y = true → Bag o' → Q y [o']) : Wd (thing2 env [o]) Q := by
  have sl := sizeLine_le
  unfold thing2
  simp only [w_call, w_consA, w_nil, w_lst, w_var g1, w_var g6]
  refine draws (P := fun y => ∃ i, y = .int i) (fun y ⟨i, e⟩ => by subst e; simp only [D.blw]) g1 hB (fun d o r hB hS => ?_) fun ys o1 hys hl hB1 => ?_
  · simp only [w_call, w_consA, w_nil, w_var (q1 d), w_c]
    exact take_wd hB hS (by omega) (by omega) fun v o' _ _ hB' => ⟨⟨v, rfl⟩, o', hB', rfl⟩
  obtain ⟨zs, e1, hz, lz⟩ := sortI (S := [o1]) hys hl
  refine wd_of e1 (wd_of tuple_of_lst ?_)
  refine draws (P := fun y => ∃ z : Str, y = .str z ∧ z.length ≤ 100) (fun y ⟨i, e, _⟩ => by subst e; simp only [D.blw]) g1 hB1 (fun d o r hB hS => ?_) fun ws o2 hws hlw hB2 => ?_
  · simp only [w_call, w_consA, w_nil, w_var (q1 d), w_var (q2 d)]
    exact some_wd hB hS (by decide) (by decide) (fun y hy => by obtain ⟨z, rfl, _⟩ := words_str y hy; simp only [D.blw]) fun y o' hy hB' => ⟨words_str y hy, o', hB', rfl⟩
  obtain ⟨zw, e2, hzw, lzw⟩ := sortW (S := [o2]) hws hlw
  refine wd_of e2 (wd_of tuple_of_lst ?_)
  refine ⟨by simp; omega, ?_⟩
  have hm : ∀ y ∈ [t, t, D.tup zs, D.tup zw], th y = true := by
    intro y hy
    simp only [List.mem_cons, List.not_mem_nil, or_false] at hy
    rcases hy with rfl | rfl | rfl | rfl
    · exact ht
    · exact ht
    · exact th_all hz (by omega)
    · exact th_all hzw (by omega)
  exact some_wd hB2 hB2.ok (by simp) (by simp) (fun y hy => th0 (hm y hy)) fun y o4 hy hB4 => k y o4 (hm y hy) hB4
end K00

set_option Elab.async false
set_option linter.all false
set_option maxRecDepth 100000
set_option autoImplicit false
set_option maxHeartbeats 2000000
namespace K00
open PySem L2 Mir
variable {S : Store} {d : D}
def isTup : D → Bool
  | .tup _ => true
  | _ => false
def itemsOf : D → List D
  | .tup ds => ds
  | _ => []
theorem tupAll_eq (f : D → Bool) (t : D) : tupAll f t = (isTup t && (itemsOf t).all f) := by
  cases t <;> rfl
theorem items_th {t : D} (h : th t = true) : (∀ x ∈ itemsOf t, th x = true) ∧ (itemsOf t).length ≤ 100 := by
  cases t with
  | tup ds =>
    simp only [th, Bool.and_eq_true, decide_eq_true_eq] at h
    exact ⟨ths_mem.mp h.2, h.1⟩
  | _ => exact ⟨nofun, Nat.zero_le _⟩
theorem filt_empty {f : D → Bool} : ∀ ps : List D, (ps.filter fun x => !f x).isEmpty = ps.all f
  | [] => rfl
  | x :: ps => by
    rw [List.filter_cons, List.all_cons, ← filt_empty ps]
    cases f x <;> simp
/-- [one for one in parts if not f(one)] == [] -/
theorem bad_ok {env : Mir.Env} {ft : FT} {f : D → Bool} {ps : List D} (hS : SOk S) (g7 : env[7]? = some (some (.tup ps))) (q16 : ∀ d, ((wipeE env [16]).set 16 (some d))[16]? = some (some d)) (hp : ∀ x ∈ ps, th x = true) (hl : ps.length ≤ 100)
    (ht : ∀ x S', x ∈ ps → SOk S' → ft ((wipeE env [16]).set 16 (some x)) S' = some (!f x, S')) : fOp oEqX (fLc (fIt gSeq (fVar 7)) (tgN 16) ft (fVar 16) [16]) (fLst fNil) env S = some (.bl (ps.all f), S) := by
  have sl := sizeLine_le
  have e : fLc (fIt gSeq (fVar 7)) (tgN 16) ft (fVar 16) [16] env S = some (.lst (ps.filter fun x => !f x), S) := by
    rw [fLc_pure (ds := ps) (fun x => !f x) id hS (by simp [fIt, fnC, sRet, sCons, sIf, sSet, sNil, fAndV, fOrV, fCall, fCons, fVar, fC, fNil, bnd, asB, fNotV, fOp, fUn, fNot, fAnd, fOr, fB, fTr, fChain, fIf, fTup, fLst, fSl, foNone, foSome, g7, gSeq]) (fun x hx => ?_) (by omega)]
    · rw [List.map_id]
    · refine ⟨(wipeE env [16]).set 16 (some x), fun S' hS' => ⟨rfl, ht x S' hx hS', fun _ => ⟨?_, th0 (hp x hx)⟩⟩⟩
      simp [fVar, q16 x]
  have e2 := oEqX_nil (S := S) (ps.filter fun x => !f x)
  rw [filt_empty] at e2
  generalize (ps.filter fun x => !f x) = xs at e e2
  simp [fnC, sRet, sCons, sIf, sSet, sNil, fAndV, fOrV, fCall, fCons, fVar, fC, fNil, bnd, asB, fNotV, fOp, fUn, fNot, fAnd, fOr, fB, fTr, fChain, fIf, fTup, fLst, fSl, foNone, foSome, e, e2]
theorem isi_tup {t : D} (h : th t = true) : bIsi [t, .raw (.ty "tuple")] S = some (.bl (isTup t), S) := by
  obtain ⟨a, e1, e2⟩ := ev_isi (S := S) "tuple" rfl h
  rw [e2]
  cases t <;> first
    | (simp [th] at h; done)
    | (cases e1; rfl)
theorem le_isB {x : D} : isB 1 12 x = true ∨ isB 1 12 x = false := by cases isB 1 12 x <;> simp
/-- the law's own way through the names: numbers, names -/
theorem nums_ok {env : Mir.Env} {t : D} (hS : SOk S) (g6 : env[6]? = some (some t)) (g7 : env[7]? = some (some (.tup (itemsOf t)))) (q16 : ∀ d, ((wipeE env [16]).set 16 (some d))[16]? = some (some d)) (ht : th t = true) :
    fAndV (fCall bIsi (fCons (fVar 6) (fCons (fC (.raw (.ty "tuple"))) (fNil)))) (fOp oEqX (fLc (fIt gSeq (fVar 7)) (tgN 16) (fOr (fNot (fTr (fCall F__law_whole (fCons (fVar 16) (fNil))))) (fB (fOp oLt (fVar 16) (fC (.int 0))))) (fVar 16) [16]) (fLst (fNil))) env S = some (.bl (tupAll isC t), S) := by
  obtain ⟨h1, h2⟩ := items_th ht
  have e := bad_ok (f := isC) (ft := fOr (fNot (fTr (fCall F__law_whole (fCons (fVar 16) (fNil))))) (fB (fOp oLt (fVar 16) (fC (.int 0))))) hS g7 q16 h1 h2 (fun x S' hx hS' => by
    have ew := ev_whole hS' (h1 x hx)
    simp only [fnC, sRet, sCons, sIf, sSet, sNil, fAndV, fOrV, fCall, fCons, fVar, fC, fNil, bnd, asB, fNotV, fOp, fUn, fNot, fAnd, fOr, fB, fTr, fChain, fIf, fTup, fLst, fSl, foNone, foSome, q16 x, ew, truD]
    cases x with
    | int i =>
      simp [isI, isC, oLt, oCmp]
      by_cases h : 0 ≤ i
      · simp [h]
      · simp [h]
        omega
    | _ => simp [isI, isC])
  rw [tupAll_eq]
  unfold fAndV
  have e2 : fCall bIsi (fCons (fVar 6) (fCons (fC (.raw (.ty "tuple"))) (fNil))) env S = some (.bl (isTup t), S) := by simp [fnC, sRet, sCons, sIf, sSet, sNil, fAndV, fOrV, fCall, fCons, fVar, fC, fNil, bnd, asB, fNotV, fOp, fUn, fNot, fAnd, fOr, fB, fTr, fChain, fIf, fTup, fLst, fSl, foNone, foSome, g6, isi_tup ht]
  rw [e2]
  cases isTup t <;> simp [asB, bnd, e]
theorem namz_ok {env : Mir.Env} {t : D} (hS : SOk S) (g6 : env[6]? = some (some t)) (g7 : env[7]? = some (some (.tup (itemsOf t)))) (q16 : ∀ d, ((wipeE env [16]).set 16 (some d))[16]? = some (some d)) (ht : th t = true) :
    fAndV (fCall bIsi (fCons (fVar 6) (fCons (fC (.raw (.ty "tuple"))) (fNil)))) (fOp oEqX (fLc (fIt gSeq (fVar 7)) (tgN 16) (fNot (fTr (fCall F__law_is_called (fCons (fVar 16) (fNil))))) (fVar 16) [16]) (fLst (fNil))) env S = some (.bl (tupAll isN t), S) := by
  obtain ⟨h1, h2⟩ := items_th ht
  have e := bad_ok (f := isN) (ft := fNot (fTr (fCall F__law_is_called (fCons (fVar 16) (fNil))))) hS g7 q16 h1 h2 (fun x S' hx hS' => by
    have ew := ev_called hS' (h1 x hx)
    simp [fnC, sRet, sCons, sIf, sSet, sNil, fAndV, fOrV, fCall, fCons, fVar, fC, fNil, bnd, asB, fNotV, fOp, fUn, fNot, fAnd, fOr, fB, fTr, fChain, fIf, fTup, fLst, fSl, foNone, foSome, q16 x, ew, truD])
  rw [tupAll_eq]
  unfold fAndV
  have e2 : fCall bIsi (fCons (fVar 6) (fCons (fC (.raw (.ty "tuple"))) (fNil))) env S = some (.bl (isTup t), S) := by simp [fnC, sRet, sCons, sIf, sSet, sNil, fAndV, fOrV, fCall, fCons, fVar, fC, fNil, bnd, asB, fNotV, fOp, fUn, fNot, fAnd, fOr, fB, fTr, fChain, fIf, fTup, fLst, fSl, foNone, foSome, g6, isi_tup ht]
  rw [e2]
  cases isTup t <;> simp [asB, bnd, e]
theorem lens_ok {env : Mir.Env} {t : D} (hS : SOk S) (g14 : env[14]? = some (some (.bl (tupAll isC t)))) (g7 : env[7]? = some (some (.tup (itemsOf t)))) (q16 : ∀ d, ((wipeE env [16]).set 16 (some d))[16]? = some (some d)) (ht : th t = true) :
    fAndV (fVar 14) (fOp oEqX (fLc (fIt gSeq (fVar 7)) (tgN 16) (fNot (fB (fChain oLe oLe (fC (.int 1)) (fVar 16) (fC (.int 12))))) (fVar 16) [16]) (fLst (fNil))) env S = some (.bl (tupAll (isB 1 12) t), S) := by
  obtain ⟨h1, h2⟩ := items_th ht
  unfold fAndV
  simp only [fVar, g14]
  cases hc : tupAll isC t with
  | false =>
    have : tupAll (isB 1 12) t = false := by
      cases hb : tupAll (isB 1 12) t with
      | false => rfl
      | true =>
        cases t with
        | tup ds =>
          have h3 : ds.all (isB 1 12) = true := hb
          have h4 : ds.all isC = true := List.all_eq_true.mpr fun x hx => by
            have := List.all_eq_true.mp h3 x hx
            cases x <;> simp_all [isB, isC]
            omega
          rw [show tupAll isC (.tup ds) = ds.all isC from rfl, h4] at hc
          cases hc
        | _ => cases hb
    simp [asB, bnd, this]
  | true =>
    have hi : ∀ x ∈ itemsOf t, isC x = true := by
      rw [tupAll_eq, Bool.and_eq_true] at hc
      exact List.all_eq_true.mp hc.2
    have e := bad_ok (f := isB 1 12) (ft := fNot (fB (fChain oLe oLe (fC (.int 1)) (fVar 16) (fC (.int 12))))) hS g7 q16 h1 h2 (fun x S' hx hS' => by
      have := hi x hx
      cases x with
      | int i =>
        by_cases h : 1 ≤ i <;> simp [fnC, sRet, sCons, sIf, sSet, sNil, fAndV, fOrV, fCall, fCons, fVar, fC, fNil, bnd, asB, fNotV, fOp, fUn, fNot, fAnd, fOr, fB, fTr, fChain, fIf, fTup, fLst, fSl, foNone, foSome, q16, isB, oLe, oI, h]
      | _ => simp [isC] at this)
    have e3 : tupAll (isB 1 12) t = (itemsOf t).all (isB 1 12) := by
      rw [tupAll_eq] at hc ⊢
      rw [Bool.and_eq_true] at hc
      rw [hc.1, Bool.true_and]
    simp [asB, bnd, e, e3]
end K00

set_option Elab.async false
set_option linter.all false
set_option maxRecDepth 100000
set_option autoImplicit false
set_option maxHeartbeats 4000000
namespace K00
open PySem L2 Mir
variable {S : Store} {d : D}
def l_name : FS := (sSet 5 (fOp mJoin (fC (.str "")) (fLc (fRng1 (fCall F__law_take (fCons (fVar 1) (fCons (fC (.int 11)) (fNil))))) (tgN 15) (tYesF) (fOp oIx (fVar 3) (fCall F__law_take (fCons (fVar 1) (fCons (fCall bLen (fCons (fVar 3) (fNil))) (fNil))))) [15])))
def l_t1 : FS := (sSet 6 (fCall F__law_some (fCons (fVar 1) (fCons (fLst (fCons (fCall F__law_some (fCons (fVar 1) (fCons (fCall F__law_odds fNil) (fNil)))) (fCons (fVar 5) (fCons (fCall F__law_some (fCons (fVar 1) (fCons (fVar 2) (fNil)))) (fCons (fCall bTuple (fCons (fLc (fRng1 (fCall F__law_take (fCons (fVar 1) (fCons (fC (.int 4)) (fNil))))) (tgN 15) (tYesF) (fCall F__law_some (fCons (fVar 1) (fCons (fCall F__law_odds fNil) (fNil)))) [15]) (fNil))) (fNil)))))) (fNil)))))
def l_t2 : FS := (sSet 6 (fCall F__law_some (fCons (fVar 1) (fCons (fLst (fCons (fVar 6) (fCons (fVar 6) (fCons (fCall bTuple (fCons (fCall bSorted (fCons (fLc (fRng1 (fCall F__law_take (fCons (fVar 1) (fCons (fC (.int 4)) (fNil))))) (tgN 15) (tYesF) (fCall F__law_take (fCons (fVar 1) (fCons (fC (.int 9)) (fNil)))) [15]) (fNil))) (fNil))) (fCons (fCall bTuple (fCons (fCall bSorted (fCons (fLc (fRng1 (fCall F__law_take (fCons (fVar 1) (fCons (fC (.int 4)) (fNil))))) (tgN 15) (tYesF) (fCall F__law_some (fCons (fVar 1) (fCons (fVar 2) (fNil)))) [15]) (fNil))) (fNil))) (fNil)))))) (fNil)))))
def l_parts : FS := (sSet 7 (fIf (fTr (fCall bIsi (fCons (fVar 6) (fCons (fC (.raw (.ty "tuple"))) (fNil))))) (fVar 6) (fTup (fNil))))
def l_lm : FS := (sPar 11 12 (fCons (fOp oSub (fCall F__law_take (fCons (fVar 1) (fCons (fC (.int 60)) (fNil)))) (fC (.int 5))) (fCons (fCall F__law_take (fCons (fVar 1) (fCons (fC (.int 70)) (fNil)))) (fNil))))
def l_cn : FS := (sPar 13 14 (fCons (fAndV (fCall F__law_whole (fCons (fVar 6) (fNil))) (fOp oGe (fVar 6) (fC (.int 0)))) (fCons (fAndV (fCall bIsi (fCons (fVar 6) (fCons (fC (.raw (.ty "tuple"))) (fNil)))) (fOp oEqX (fLc (fIt gSeq (fVar 7)) (tgN 16) (fOr (fNot (fTr (fCall F__law_whole (fCons (fVar 16) (fNil))))) (fB (fOp oLt (fVar 16) (fC (.int 0))))) (fVar 16) [16]) (fLst (fNil)))) (fNil))))
def l_nms : FS := (sSet 8 (fAndV (fCall bIsi (fCons (fVar 6) (fCons (fC (.raw (.ty "tuple"))) (fNil)))) (fOp oEqX (fLc (fIt gSeq (fVar 7)) (tgN 16) (fNot (fTr (fCall F__law_is_called (fCons (fVar 16) (fNil))))) (fVar 16) [16]) (fLst (fNil)))))
def l_due : FS := (sSet 9 (fLst (fCons (fCall F__law_whole (fCons (fVar 6) (fNil))) (fCons (fVar 13) (fCons (fCall F__law_is_called (fCons (fVar 6) (fNil))) (fCons (fAndV (fVar 14) (fCall F__law_rises (fCons (fVar 7) (fNil)))) (fCons (fAndV (fVar 8) (fCall F__law_rises (fCons (fVar 7) (fNil)))) (fCons (fAndV (fVar 8) (fOp oEqX (fUn oLenSet (fVar 7)) (fCall bLen (fCons (fVar 7) (fNil))))) (fNil)))))))))
def l_told (ac al an : Addr) : FS := (sSet 10 (fLst (fCons (fCall F_is_integer (fCons (fVar 6) (fNil))) (fCons (fCall F_is_count (fCons (fVar 6) (fNil))) (fCons (fCall F_is_name (fCons (fVar 6) (fNil))) (fCons (fCall (F_is_counts ac al an) (fCons (fVar 6) (fNil))) (fCons (fCall (F_is_names ac al an) (fCons (fVar 6) (fNil))) (fCons (fCall (F_is_names_list ac al an) (fCons (fVar 6) (fNil))) (fNil)))))))))
def l_if1 : FS := (sIf (fNot (fTr (fCall F__law_alike (fCons (fVar 10) (fCons (fVar 9) (fNil)))))) (sRet (fC (.bl false))) (sNil))
def l_if2 : FS := (sIf (fNot (fTr (fCall F__law_alike (fCons (fLst (fCons (fCall F_is_thing (fCons (fVar 6) (fNil))) (fCons (fCall F_is_length (fCons (fVar 6) (fNil))) (fCons (fCall F_is_between (fCons (fVar 6) (fCons (fVar 11) (fCons (fVar 12) (fNil))))) (fNil))))) (fCons (fLst (fCons (fCall F__law_is_in (fCons (fVar 6) (fCons (fC (.int 0)) (fCons (fC (.int 999)) (fNil))))) (fCons (fCall F__law_is_in (fCons (fVar 6) (fCons (fC (.int 1)) (fCons (fC (.int 12)) (fNil))))) (fCons (fCall F__law_is_in (fCons (fVar 6) (fCons (fVar 11) (fCons (fVar 12) (fNil))))) (fNil))))) (fNil)))))) (sRet (fC (.bl false))) (sNil))
def l_if3 (ac al an : Addr) : FS := (sIf (fNot (fTr (fCall F__law_alike (fCons (fLst (fCons (fCall (F_is_tuple_of ac al an) (fCons (fVar 6) (fCons (fC (.raw (.ref ac))) (fNil)))) (fCons (fCall (F_is_tuple_of ac al an) (fCons (fVar 6) (fCons (fC (.raw (.ref an))) (fNil)))) (fCons (fCall (F_is_tuple_of ac al an) (fCons (fVar 6) (fCons (fC (.raw (.ref al))) (fNil)))) (fNil))))) (fCons (fLst (fCons (fVar 14) (fCons (fVar 8) (fCons (fAndV (fVar 14) (fOp oEqX (fLc (fIt gSeq (fVar 7)) (tgN 16) (fNot (fB (fChain oLe oLe (fC (.int 1)) (fVar 16) (fC (.int 12))))) (fVar 16) [16]) (fLst (fNil)))) (fNil))))) (fNil)))))) (sRet (fC (.bl false))) (sNil))
def lap (ac al an : Addr) : FS := (sCons l_name (sCons l_t1 (sCons l_t2 (sCons l_parts (sCons l_lm (sCons l_cn (sCons l_nms (sCons l_due (sCons (l_told ac al an) (sCons l_if1 (sCons l_if2 (l_if3 ac al an))))))))))))
theorem lap_eq (ac al an : Addr) : lap ac al an = (sCons (sSet 5 (fOp mJoin (fC (.str "")) (fLc (fRng1 (fCall F__law_take (fCons (fVar 1) (fCons (fC (.int 11)) (fNil))))) (tgN 15) (tYesF) (fOp oIx (fVar 3) (fCall F__law_take (fCons (fVar 1) (fCons (fCall bLen (fCons (fVar 3) (fNil))) (fNil))))) [15]))) (sCons (sSet 6 (fCall F__law_some (fCons (fVar 1) (fCons (fLst (fCons (fCall F__law_some (fCons (fVar 1) (fCons (fCall F__law_odds fNil) (fNil)))) (fCons (fVar 5) (fCons (fCall F__law_some (fCons (fVar 1) (fCons (fVar 2) (fNil)))) (fCons (fCall bTuple (fCons (fLc (fRng1 (fCall F__law_take (fCons (fVar 1) (fCons (fC (.int 4)) (fNil))))) (tgN 15) (tYesF) (fCall F__law_some (fCons (fVar 1) (fCons (fCall F__law_odds fNil) (fNil)))) [15]) (fNil))) (fNil)))))) (fNil))))) (sCons (sSet 6 (fCall F__law_some (fCons (fVar 1) (fCons (fLst (fCons (fVar 6) (fCons (fVar 6) (fCons (fCall bTuple (fCons (fCall bSorted (fCons (fLc (fRng1 (fCall F__law_take (fCons (fVar 1) (fCons (fC (.int 4)) (fNil))))) (tgN 15) (tYesF) (fCall F__law_take (fCons (fVar 1) (fCons (fC (.int 9)) (fNil)))) [15]) (fNil))) (fNil))) (fCons (fCall bTuple (fCons (fCall bSorted (fCons (fLc (fRng1 (fCall F__law_take (fCons (fVar 1) (fCons (fC (.int 4)) (fNil))))) (tgN 15) (tYesF) (fCall F__law_some (fCons (fVar 1) (fCons (fVar 2) (fNil)))) [15]) (fNil))) (fNil))) (fNil)))))) (fNil))))) (sCons (sSet 7 (fIf (fTr (fCall bIsi (fCons (fVar 6) (fCons (fC (.raw (.ty "tuple"))) (fNil))))) (fVar 6) (fTup (fNil)))) (sCons (sPar 11 12 (fCons (fOp oSub (fCall F__law_take (fCons (fVar 1) (fCons (fC (.int 60)) (fNil)))) (fC (.int 5))) (fCons (fCall F__law_take (fCons (fVar 1) (fCons (fC (.int 70)) (fNil)))) (fNil)))) (sCons (sPar 13 14 (fCons (fAndV (fCall F__law_whole (fCons (fVar 6) (fNil))) (fOp oGe (fVar 6) (fC (.int 0)))) (fCons (fAndV (fCall bIsi (fCons (fVar 6) (fCons (fC (.raw (.ty "tuple"))) (fNil)))) (fOp oEqX (fLc (fIt gSeq (fVar 7)) (tgN 16) (fOr (fNot (fTr (fCall F__law_whole (fCons (fVar 16) (fNil))))) (fB (fOp oLt (fVar 16) (fC (.int 0))))) (fVar 16) [16]) (fLst (fNil)))) (fNil)))) (sCons (sSet 8 (fAndV (fCall bIsi (fCons (fVar 6) (fCons (fC (.raw (.ty "tuple"))) (fNil)))) (fOp oEqX (fLc (fIt gSeq (fVar 7)) (tgN 16) (fNot (fTr (fCall F__law_is_called (fCons (fVar 16) (fNil))))) (fVar 16) [16]) (fLst (fNil))))) (sCons (sSet 9 (fLst (fCons (fCall F__law_whole (fCons (fVar 6) (fNil))) (fCons (fVar 13) (fCons (fCall F__law_is_called (fCons (fVar 6) (fNil))) (fCons (fAndV (fVar 14) (fCall F__law_rises (fCons (fVar 7) (fNil)))) (fCons (fAndV (fVar 8) (fCall F__law_rises (fCons (fVar 7) (fNil)))) (fCons (fAndV (fVar 8) (fOp oEqX (fUn oLenSet (fVar 7)) (fCall bLen (fCons (fVar 7) (fNil))))) (fNil))))))))) (sCons (sSet 10 (fLst (fCons (fCall F_is_integer (fCons (fVar 6) (fNil))) (fCons (fCall F_is_count (fCons (fVar 6) (fNil))) (fCons (fCall F_is_name (fCons (fVar 6) (fNil))) (fCons (fCall (F_is_counts ac al an) (fCons (fVar 6) (fNil))) (fCons (fCall (F_is_names ac al an) (fCons (fVar 6) (fNil))) (fCons (fCall (F_is_names_list ac al an) (fCons (fVar 6) (fNil))) (fNil))))))))) (sCons (sIf (fNot (fTr (fCall F__law_alike (fCons (fVar 10) (fCons (fVar 9) (fNil)))))) (sRet (fC (.bl false))) (sNil)) (sCons (sIf (fNot (fTr (fCall F__law_alike (fCons (fLst (fCons (fCall F_is_thing (fCons (fVar 6) (fNil))) (fCons (fCall F_is_length (fCons (fVar 6) (fNil))) (fCons (fCall F_is_between (fCons (fVar 6) (fCons (fVar 11) (fCons (fVar 12) (fNil))))) (fNil))))) (fCons (fLst (fCons (fCall F__law_is_in (fCons (fVar 6) (fCons (fC (.int 0)) (fCons (fC (.int 999)) (fNil))))) (fCons (fCall F__law_is_in (fCons (fVar 6) (fCons (fC (.int 1)) (fCons (fC (.int 12)) (fNil))))) (fCons (fCall F__law_is_in (fCons (fVar 6) (fCons (fVar 11) (fCons (fVar 12) (fNil))))) (fNil))))) (fNil)))))) (sRet (fC (.bl false))) (sNil)) (sIf (fNot (fTr (fCall F__law_alike (fCons (fLst (fCons (fCall (F_is_tuple_of ac al an) (fCons (fVar 6) (fCons (fC (.raw (.ref ac))) (fNil)))) (fCons (fCall (F_is_tuple_of ac al an) (fCons (fVar 6) (fCons (fC (.raw (.ref an))) (fNil)))) (fCons (fCall (F_is_tuple_of ac al an) (fCons (fVar 6) (fCons (fC (.raw (.ref al))) (fNil)))) (fNil))))) (fCons (fLst (fCons (fVar 14) (fCons (fVar 8) (fCons (fAndV (fVar 14) (fOp oEqX (fLc (fIt gSeq (fVar 7)) (tgN 16) (fNot (fB (fChain oLe oLe (fC (.int 1)) (fVar 16) (fC (.int 12))))) (fVar 16) [16]) (fLst (fNil)))) (fNil))))) (fNil)))))) (sRet (fC (.bl false))) (sNil))))))))))))) := rfl
end K00

set_option Elab.async false
set_option linter.all false
set_option maxRecDepth 100000
set_option autoImplicit false
set_option maxHeartbeats 4000000
namespace K00
open PySem L2 Mir
variable {S : Store} {d : D}
theorem parts_ok {env : Mir.Env} {t : D} (g6 : env[6]? = some (some t)) (ht : th t = true) : fIf (fTr (fCall bIsi (fCons (fVar 6) (fCons (fC (.raw (.ty "tuple"))) (fNil))))) (fVar 6) (fTup fNil) env S = some (.tup (itemsOf t), S) := by
  have e := isi_tup (S := S) ht
  simp [fnC, sRet, sCons, sIf, sSet, sNil, fAndV, fOrV, fCall, fCons, fVar, fC, fNil, bnd, asB, fNotV, fOp, fUn, fNot, fAnd, fOr, fB, fTr, fChain, fIf, fTup, fLst, fSl, foNone, foSome, g6, e, truD]
  cases t <;> simp [isTup, itemsOf]
theorem rise1 {env : Mir.Env} {t : D} (hS : SOk S) (g14 : env[14]? = some (some (.bl (tupAll isC t)))) (g7 : env[7]? = some (some (.tup (itemsOf t)))) (ht : th t = true) : fAndV (fVar 14) (fCall F__law_rises (fCons (fVar 7) (fNil))) env S = some (.bl (cntB t), S) := by
  cases t with
  | tup ds =>
    simp only [th, Bool.and_eq_true, decide_eq_true_eq] at ht
    by_cases h : ds.all isC = true
    · have e := ev_rises hS ht.1 (alike_isC h)
      simp [fnC, sRet, sCons, sIf, sSet, sNil, fAndV, fOrV, fCall, fCons, fVar, fC, fNil, bnd, asB, fNotV, fOp, fUn, fNot, fAnd, fOr, fB, fTr, fChain, fIf, fTup, fLst, fSl, foNone, foSome, g14, g7, tupAll, h, itemsOf, e, cntB]
    · rw [Bool.not_eq_true] at h
      simp [fnC, sRet, sCons, sIf, sSet, sNil, fAndV, fOrV, fCall, fCons, fVar, fC, fNil, bnd, asB, fNotV, fOp, fUn, fNot, fAnd, fOr, fB, fTr, fChain, fIf, fTup, fLst, fSl, foNone, foSome, g14, tupAll, h, cntB]
  | _ => simp [fnC, sRet, sCons, sIf, sSet, sNil, fAndV, fOrV, fCall, fCons, fVar, fC, fNil, bnd, asB, fNotV, fOp, fUn, fNot, fAnd, fOr, fB, fTr, fChain, fIf, fTup, fLst, fSl, foNone, foSome, g14, tupAll, cntB]
theorem rise2 {env : Mir.Env} {t : D} (hS : SOk S) (g8 : env[8]? = some (some (.bl (tupAll isN t)))) (g7 : env[7]? = some (some (.tup (itemsOf t)))) (ht : th t = true) : fAndV (fVar 8) (fCall F__law_rises (fCons (fVar 7) (fNil))) env S = some (.bl (nmsB t), S) := by
  cases t with
  | tup ds =>
    simp only [th, Bool.and_eq_true, decide_eq_true_eq] at ht
    by_cases h : ds.all isN = true
    · have e := ev_rises hS ht.1 (alike_isN h)
      simp [fnC, sRet, sCons, sIf, sSet, sNil, fAndV, fOrV, fCall, fCons, fVar, fC, fNil, bnd, asB, fNotV, fOp, fUn, fNot, fAnd, fOr, fB, fTr, fChain, fIf, fTup, fLst, fSl, foNone, foSome, g8, g7, tupAll, h, itemsOf, e, nmsB]
    · rw [Bool.not_eq_true] at h
      simp [fnC, sRet, sCons, sIf, sSet, sNil, fAndV, fOrV, fCall, fCons, fVar, fC, fNil, bnd, asB, fNotV, fOp, fUn, fNot, fAnd, fOr, fB, fTr, fChain, fIf, fTup, fLst, fSl, foNone, foSome, g8, tupAll, h, nmsB]
  | _ => simp [fnC, sRet, sCons, sIf, sSet, sNil, fAndV, fOrV, fCall, fCons, fVar, fC, fNil, bnd, asB, fNotV, fOp, fUn, fNot, fAnd, fOr, fB, fTr, fChain, fIf, fTup, fLst, fSl, foNone, foSome, g8, tupAll, nmsB]
theorem sets1 {env : Mir.Env} {t : D} (g8 : env[8]? = some (some (.bl (tupAll isN t)))) (g7 : env[7]? = some (some (.tup (itemsOf t)))) (ht : th t = true) : fAndV (fVar 8) (fOp oEqX (fUn oLenSet (fVar 7)) (fCall bLen (fCons (fVar 7) (fNil)))) env S = some (.bl (nmlB t), S) := by
  cases t with
  | tup ds =>
    simp only [th, Bool.and_eq_true, decide_eq_true_eq] at ht
    by_cases h : ds.all isN = true
    · obtain ⟨xs, e1, e2⟩ := strs_of h
      have hx : xs.length ≤ 4000 := by omega
      have e3 : oLenSet (.tup ds) S = some (.int (dedupS xs).length, S) := by
        simp [oLenSet, e1, hx]
      have e4 : bLen [.tup ds] S = some (.int ds.length, S) := by simp [bLen, seqOf]
      have e5 : oEqX (.int (dedupS xs).length) (.int ds.length) S = some (.bl (((dedupS xs).length : Int) == ds.length), S) := rfl
      simp [fnC, sRet, sCons, sIf, sSet, sNil, fAndV, fOrV, fCall, fCons, fVar, fC, fNil, bnd, asB, fNotV, fOp, fUn, fNot, fAnd, fOr, fB, fTr, fChain, fIf, fTup, fLst, fSl, foNone, foSome, g8, g7, itemsOf, tupAll, h, e3, e4, e5, nmlB, e1]
      rfl
    · rw [Bool.not_eq_true] at h
      simp [fnC, sRet, sCons, sIf, sSet, sNil, fAndV, fOrV, fCall, fCons, fVar, fC, fNil, bnd, asB, fNotV, fOp, fUn, fNot, fAnd, fOr, fB, fTr, fChain, fIf, fTup, fLst, fSl, foNone, foSome, g8, tupAll, h, nmlB]
  | _ => simp [fnC, sRet, sCons, sIf, sSet, sNil, fAndV, fOrV, fCall, fCons, fVar, fC, fNil, bnd, asB, fNotV, fOp, fUn, fNot, fAnd, fOr, fB, fTr, fChain, fIf, fTup, fLst, fSl, foNone, foSome, g8, tupAll, nmlB]
theorem whole1 {env : Mir.Env} {t : D} (hS : SOk S) (g6 : env[6]? = some (some t)) (ht : th t = true) : fAndV (fCall F__law_whole (fCons (fVar 6) (fNil))) (fOp oGe (fVar 6) (fC (.int 0))) env S = some (.bl (isC t), S) := by
  have e := ev_whole hS ht
  simp [fnC, sRet, sCons, sIf, sSet, sNil, fAndV, fOrV, fCall, fCons, fVar, fC, fNil, bnd, asB, fNotV, fOp, fUn, fNot, fAnd, fOr, fB, fTr, fChain, fIf, fTup, fLst, fSl, foNone, foSome, g6, e]
  cases t <;> simp [isI, isC, oGe, oI]
def duesOf (t : D) : D := .lst [.bl (isI t), .bl (isC t), .bl (isN t), .bl (cntB t), .bl (nmsB t), .bl (nmlB t)]
theorem due_ok {env : Mir.Env} {t : D} (hS : SOk S) (g6 : env[6]? = some (some t)) (g7 : env[7]? = some (some (.tup (itemsOf t)))) (g8 : env[8]? = some (some (.bl (tupAll isN t)))) (g13 : env[13]? = some (some (.bl (isC t)))) (g14 : env[14]? = some (some (.bl (tupAll isC t)))) (ht : th t = true) :
    l_due env S = some (.nx (env.set 9 (some (duesOf t))), S) := by
  have s6 : 6 ≤ sizeLine := by have := sizeLine_le; omega
  have e1 := ev_whole hS ht
  have e2 := ev_called hS ht
  have e3 := rise1 hS g14 g7 ht
  have e4 := rise2 hS g8 g7 ht
  have e5 := sets1 (S := S) g8 g7 ht
  refine of_wd ?_
  unfold l_due
  simp only [w_set, w_lst, w_consA, w_nil, w_call, w_var g6, w_var g13, wd_eq e1, wd_eq e2, wd_eq e3, wd_eq e4, wd_eq e5]
  exact ⟨s6, rfl, trivial⟩
theorem told_ok {ac al an : Addr} (hA : Apart ac al an) {env : Mir.Env} {t : D} (hS : SOk S) (g6 : env[6]? = some (some t)) (ht : th t = true) : l_told ac al an env S = some (.nx (env.set 10 (some (duesOf t))), S) := by
  have s6 : 6 ≤ sizeLine := by have := sizeLine_le; omega
  simp [l_told, fnC, sRet, sCons, sIf, sSet, sNil, fAndV, fOrV, fCall, fCons, fVar, fC, fNil, bnd, asB, fNotV, fOp, fUn, fNot, fAnd, fOr, fB, fTr, fChain, fIf, fTup, fLst, fSl, foNone, foSome, g6, ev_integer hS ht, ev_count hS ht, ev_name hS ht, ev_counts hA hS ht, ev_names hA hS ht, ev_nameslist hA hS ht, s6, duesOf]
theorem if1_ok {env : Mir.Env} {t : D} (hS : SOk S) (g9 : env[9]? = some (some (duesOf t))) (g10 : env[10]? = some (some (duesOf t))) : l_if1 env S = some (.nx env, S) := by
  have e := alike6 (a := isI t) (b := isC t) (c := isN t) (d := cntB t) (e := nmsB t) (f := nmlB t) hS
  simp [l_if1, fnC, sRet, sCons, sIf, sSet, sNil, fAndV, fOrV, fCall, fCons, fVar, fC, fNil, bnd, asB, fNotV, fOp, fUn, fNot, fAnd, fOr, fB, fTr, fChain, fIf, fTup, fLst, fSl, foNone, foSome, g9, g10, duesOf, e, truD]
theorem if2_ok {env : Mir.Env} {t : D} {lo hi : Int} (hS : SOk S) (g6 : env[6]? = some (some t)) (g11 : env[11]? = some (some (.int lo))) (g12 : env[12]? = some (some (.int hi))) (ht : th t = true) : l_if2 env S = some (.nx env, S) := by
  have s3 : 3 ≤ sizeLine := by have := sizeLine_le; omega
  have e := alike3 (a := isB 0 999 t) (b := isB 1 12 t) (c := isB lo hi t) hS
  simp [l_if2, fnC, sRet, sCons, sIf, sSet, sNil, fAndV, fOrV, fCall, fCons, fVar, fC, fNil, bnd, asB, fNotV, fOp, fUn, fNot, fAnd, fOr, fB, fTr, fChain, fIf, fTup, fLst, fSl, foNone, foSome, g6, g11, g12, ev_thing hS ht, ev_length hS ht, ev_between hS ht, ev_in hS ht, s3, e, truD]
theorem if3_ok {ac al an : Addr} (hA : Apart ac al an) {env : Mir.Env} {t : D} (hS : SOk S) (g6 : env[6]? = some (some t)) (g7 : env[7]? = some (some (.tup (itemsOf t)))) (g8 : env[8]? = some (some (.bl (tupAll isN t)))) (g14 : env[14]? = some (some (.bl (tupAll isC t))))
    (q16 : ∀ d, ((wipeE env [16]).set 16 (some d))[16]? = some (some d)) (ht : th t = true) : l_if3 ac al an env S = some (.nx env, S) := by
  have s3 : 3 ≤ sizeLine := by have := sizeLine_le; omega
  have e := alike3 (a := tupAll isC t) (b := tupAll isN t) (c := tupAll (isB 1 12) t) hS
  have e2 := lens_ok hS g14 g7 q16 ht
  refine of_wd ?_
  unfold l_if3
  simp only [w_if, w_not, w_tr, w_call, w_consA, w_nil, w_lst, w_c, w_var g6, w_var g8, w_var g14, wd_eq e2, wd_eq (ev_tc hA hS ht), wd_eq (ev_tn hA hS ht), wd_eq (ev_tl hA hS ht), wd_eq e]
  exact ⟨s3, s3, true, rfl, wd_some.mpr ⟨rfl, rfl⟩⟩
theorem lap_ok {ac al an : Addr} (hA : Apart ac al an) {sc : D} {x4 x5 x6 x7 x8 x9 x10 x11 x12 x13 x14 x15 x16 : Option D} {o : O} (hB : Bag o) :
    Wd (lap ac al an [some sc, some (.loc 0), some (.lst words), some (.str signs), x4, x5, x6, x7, x8, x9, x10, x11, x12, x13, x14, x15, x16] [o]) fun r S4 => ∃ e2, r = .nx e2 ∧ JS sc e2 S4 := by
  unfold lap
  rw [w_seq]
  unfold l_name
  rw [w_set]
  refine name_ok rfl rfl rfl rfl hB fun z o1 hz hB1 => ?_
  simp only [List.set_cons_succ, List.set_cons_zero]
  rw [w_seq]
  unfold l_t1
  rw [w_set]
  refine thing1_ok (z := z) rfl rfl rfl hz (fun _ => rfl) hB1 fun t1 o2 ht1 hB2 => ?_
  simp only [List.set_cons_succ, List.set_cons_zero]
  rw [w_seq]
  unfold l_t2
  rw [w_set]
  refine thing2_ok (t := t1) rfl rfl ht1 (fun _ => rfl) (fun _ => rfl) hB2 fun t o3 ht hB3 => ?_
  simp only [List.set_cons_succ, List.set_cons_zero]
  rw [w_seq]
  unfold l_parts
  rw [w_set, wd_eq (parts_ok (t := t) rfl ht)]
  simp only [List.set_cons_succ, List.set_cons_zero]
  rw [w_seq]
  unfold l_lm
  rw [w_par, w_consA, w_op, w_call, w_consA, w_var rfl, w_consA, w_c, w_nil]
  refine take_wd hB3 hB3.ok (by omega) (by omega) fun v o4 v0 v1 hB4 => ?_
  rw [w_c]
  refine wd_of sub_ok ?_
  rw [w_consA, w_call, w_consA, w_var rfl, w_consA, w_c, w_nil]
  refine take_wd hB4 hB4.ok (by omega) (by omega) fun u o5 u0 u1 hB5 => ?_
  rw [w_nil]
  refine ⟨_, _, rfl, ?_⟩
  simp only [List.set_cons_succ, List.set_cons_zero]
  have hS := hB5.ok
  rw [w_seq]
  unfold l_cn
  rw [w_par, w_consA, wd_eq (whole1 (t := t) hS rfl ht), w_consA, wd_eq (nums_ok (t := t) hS rfl rfl (fun _ => rfl) ht), w_nil]
  refine ⟨_, _, rfl, ?_⟩
  simp only [List.set_cons_succ, List.set_cons_zero]
  rw [w_seq]
  unfold l_nms
  rw [w_set, wd_eq (namz_ok (t := t) hS rfl rfl (fun _ => rfl) ht)]
  simp only [List.set_cons_succ, List.set_cons_zero]
  rw [w_seq, wd_eq (due_ok (t := t) hS rfl rfl rfl rfl rfl ht)]
  simp only [List.set_cons_succ, List.set_cons_zero]
  rw [w_seq, wd_eq (told_ok hA (t := t) hS rfl ht)]
  simp only [List.set_cons_succ, List.set_cons_zero]
  rw [w_seq, wd_eq (if1_ok (t := t) hS rfl rfl)]
  simp only
  rw [w_seq, wd_eq (if2_ok (t := t) hS rfl rfl rfl ht)]
  simp only
  rw [wd_eq (if3_ok hA (t := t) hS rfl rfl rfl rfl (fun _ => rfl) ht)]
  exact ⟨_, rfl, ⟨_, _, _, _, _, _, _, _, _, _, _, _, _, rfl⟩, o5, rfl, hB5⟩
theorem law_plain {ac al an : Addr} (hA : Apart ac al an) (ns : List Int) (hl : ns.length ≤ 63) : ∃ S, F_law ac al an [.fro (ns.map .int)] [] = some (.bl true, S) := by
  obtain ⟨o, hB, eb⟩ := bag_ok hl
  have s16 : 16 ≤ sizeLine := by have := sizeLine_le; omega
  have e : Wd (F_law ac al an [.fro (ns.map .int)] []) fun d _ => d = .bl true := by
    refine w_fn rfl ?_
    show Wd (B_law ac al an [some (.fro (ns.map .int)), none, none, none, none, none, none, none, none, none, none, none, none, none, none, none, none] []) _
    unfold B_law
    rw [w_seq, w_set, w_call, w_consA, w_var rfl, w_nil, wd_eq eb]
    simp only [List.set_cons_succ, List.set_cons_zero]
    rw [w_seq, w_set, w_lst]
    simp only [w_consA, w_c, w_nil]
    refine ⟨s16, ?_⟩
    simp only [List.set_cons_succ, List.set_cons_zero]
    rw [w_seq, w_set, w_c]
    simp only [List.set_cons_succ, List.set_cons_zero]
    rw [w_seq]
    refine w_for (JS (.fro (ns.map .int))) (ds := rng 0 30) (S1 := [o]) (by simp [fRng1, fnC, sRet, sCons, sIf, sSet, sNil, fAndV, fOrV, fCall, fCons, fVar, fC, fNil, bnd, asB, fNotV, fOp, fUn, fNot, fAnd, fOr, fB, fTr, fChain, fIf, fTup, fLst, fSl, foNone, foSome, asI, okR_of]) ⟨⟨_, _, _, _, _, _, _, _, _, _, _, _, _, rfl⟩, o, rfl, hB⟩ (fun d hd e S2 hJ => ?_) fun e S2 hJ => ?_
    · obtain ⟨⟨x4, x5, x6, x7, x8, x9, x10, x11, x12, x13, x14, x15, x16, rfl⟩, o1, rfl, hB1⟩ := hJ
      refine wd_of (a := [some (.fro (ns.map .int)), some (.loc 0), some (.lst words), some (.str signs), some d, x5, x6, x7, x8, x9, x10, x11, x12, x13, x14, x15, x16]) (S := [o1]) rfl ?_
      rw [← lap_eq]
      exact lap_ok hA hB1
    · obtain ⟨_, o1, rfl, hB1⟩ := hJ
      simp only
      rw [w_ret, w_c]
      exact ⟨.bl true, .inl rfl, wd_of (a := .bl true) (S := []) rfl rfl⟩
  obtain ⟨d, S, e1, rfl⟩ := e
  exact ⟨S, e1⟩
end K00

set_option Elab.async false
set_option linter.all false
set_option maxRecDepth 100000
set_option autoImplicit false
set_option maxHeartbeats 4000000
namespace K00
open PySem PySem.P PySem.Spec PyProof.Rows L2 Mir
theorem fun_ne {K : PySem.W.Frag} {x y q q2 : Str} {st st2 : Stmt} {f g : Addr} {fd fd2 : FuncData} (F1 : Fun K x q st f fd) (F2 : Fun K y q2 st2 g fd2) (h : x ≠ y) : f ≠ g := by
  rintro rfl
  obtain ⟨_, _, _, _, _, _, _, _, _, e1, l1, _⟩ := F1.ex
  obtain ⟨_, _, _, _, _, _, _, _, _, e2, l2, _⟩ := F2.ex
  rw [l1] at l2
  cases l2
  rw [e1] at e2
  exact h (congrArg FuncData.name e2)
theorem all_mk {l : PySem.W.OpenLaw} {w : World} {K : PySem.W.Frag} {h : Heap} {mg : Str → Option Value} {fa f0 f1 f2 f3 f4 f5 f6 f7 f8 f9 f10 f11 f12 f13 f14 f15 f16 f17 f18 f19 f20 : Addr} (X : K.In h) (G : h.Ns mainGlobals mg) (hfa : mg "law" = some (.ref fa))
    {od0 an0 od1 an1 od2 an2 od3 an3 od4 an4 od5 an5 od6 an6 od7 an7 od8 an8 od9 an9 od10 an10 od11 an11 od12 an12 od13 an13 od14 an14 od15 an15 od16 an16 od17 an17 od18 an18 od19 an19 od20 an20 : Option Addr} {sl0 sl1 sl2 sl3 sl4 sl5 sl6 sl7 sl8 sl9 sl10 sl11 sl12 sl13 sl14 sl15 sl16 sl17 sl18 sl19 sl20 : Array (Option Value)}
    {oc0 kV0 dc0 pm0 cd0 ct0 oc1 kV1 dc1 pm1 cd1 ct1 oc2 kV2 dc2 pm2 cd2 ct2 oc3 kV3 dc3 pm3 cd3 ct3 oc4 kV4 dc4 pm4 cd4 ct4 oc5 kV5 dc5 pm5 cd5 ct5 oc6 kV6 dc6 pm6 cd6 ct6 oc7 kV7 dc7 pm7 cd7 ct7 oc8 kV8 dc8 pm8 cd8 ct8 oc9 kV9 dc9 pm9 cd9 ct9 oc10 kV10 dc10 pm10 cd10 ct10 oc11 kV11 dc11 pm11 cd11 ct11 oc12 kV12 dc12 pm12 cd12 ct12 oc13 kV13 dc13 pm13 cd13 ct13 oc14 kV14 dc14 pm14 cd14 ct14 oc15 kV15 dc15 pm15 cd15 ct15 oc16 kV16 dc16 pm16 cd16 ct16 oc17 kV17 dc17 pm17 cd17 ct17 oc18 kV18 dc18 pm18 cd18 ct18 oc19 kV19 dc19 pm19 cd19 ct19 oc20 kV20 dc20 pm20 cd20 ct20 : Value}
    (a0 : PySem.W.nsIn K mainGlobals "is_integer" = some (some (.ref f0))) (l0 : K.lookup f0 = some ⟨oc0, od0, .func (PySem.W.fnOf "is_integer" "is_integer" (defArgs s_is_integer) (defBody s_is_integer) (defScope s_is_integer) .none kV0 dc0 pm0 an0 cd0 ct0), sl0⟩) (c0 : PySem.W.codeIn K cd0 "is_integer" = true) (k0 : PySem.W.keepIn K (.ref f0) = true)
    (a1 : PySem.W.nsIn K mainGlobals "is_count" = some (some (.ref f1))) (l1 : K.lookup f1 = some ⟨oc1, od1, .func (PySem.W.fnOf "is_count" "is_count" (defArgs s_is_count) (defBody s_is_count) (defScope s_is_count) .none kV1 dc1 pm1 an1 cd1 ct1), sl1⟩) (c1 : PySem.W.codeIn K cd1 "is_count" = true) (k1 : PySem.W.keepIn K (.ref f1) = true)
    (a2 : PySem.W.nsIn K mainGlobals "is_between" = some (some (.ref f2))) (l2 : K.lookup f2 = some ⟨oc2, od2, .func (PySem.W.fnOf "is_between" "is_between" (defArgs s_is_between) (defBody s_is_between) (defScope s_is_between) .none kV2 dc2 pm2 an2 cd2 ct2), sl2⟩) (c2 : PySem.W.codeIn K cd2 "is_between" = true) (k2 : PySem.W.keepIn K (.ref f2) = true)
    (a3 : PySem.W.nsIn K mainGlobals "is_name" = some (some (.ref f3))) (l3 : K.lookup f3 = some ⟨oc3, od3, .func (PySem.W.fnOf "is_name" "is_name" (defArgs s_is_name) (defBody s_is_name) (defScope s_is_name) .none kV3 dc3 pm3 an3 cd3 ct3), sl3⟩) (c3 : PySem.W.codeIn K cd3 "is_name" = true) (k3 : PySem.W.keepIn K (.ref f3) = true)
    (a4 : PySem.W.nsIn K mainGlobals "is_thing" = some (some (.ref f4))) (l4 : K.lookup f4 = some ⟨oc4, od4, .func (PySem.W.fnOf "is_thing" "is_thing" (defArgs s_is_thing) (defBody s_is_thing) (defScope s_is_thing) .none kV4 dc4 pm4 an4 cd4 ct4), sl4⟩) (c4 : PySem.W.codeIn K cd4 "is_thing" = true) (k4 : PySem.W.keepIn K (.ref f4) = true)
    (a5 : PySem.W.nsIn K mainGlobals "is_length" = some (some (.ref f5))) (l5 : K.lookup f5 = some ⟨oc5, od5, .func (PySem.W.fnOf "is_length" "is_length" (defArgs s_is_length) (defBody s_is_length) (defScope s_is_length) .none kV5 dc5 pm5 an5 cd5 ct5), sl5⟩) (c5 : PySem.W.codeIn K cd5 "is_length" = true) (k5 : PySem.W.keepIn K (.ref f5) = true)
    (a6 : PySem.W.nsIn K mainGlobals "is_tuple_of" = some (some (.ref f6))) (l6 : K.lookup f6 = some ⟨oc6, od6, .func (PySem.W.fnOf "is_tuple_of" "is_tuple_of" (defArgs s_is_tuple_of) (defBody s_is_tuple_of) (defScope s_is_tuple_of) .none kV6 dc6 pm6 an6 cd6 ct6), sl6⟩) (c6 : PySem.W.codeIn K cd6 "is_tuple_of" = true) (k6 : PySem.W.keepIn K (.ref f6) = true)
    (a7 : PySem.W.nsIn K mainGlobals "are_ascending" = some (some (.ref f7))) (l7 : K.lookup f7 = some ⟨oc7, od7, .func (PySem.W.fnOf "are_ascending" "are_ascending" (defArgs s_are_ascending) (defBody s_are_ascending) (defScope s_are_ascending) .none kV7 dc7 pm7 an7 cd7 ct7), sl7⟩) (c7 : PySem.W.codeIn K cd7 "are_ascending" = true) (k7 : PySem.W.keepIn K (.ref f7) = true)
    (a8 : PySem.W.nsIn K mainGlobals "is_counts" = some (some (.ref f8))) (l8 : K.lookup f8 = some ⟨oc8, od8, .func (PySem.W.fnOf "is_counts" "is_counts" (defArgs s_is_counts) (defBody s_is_counts) (defScope s_is_counts) .none kV8 dc8 pm8 an8 cd8 ct8), sl8⟩) (c8 : PySem.W.codeIn K cd8 "is_counts" = true) (k8 : PySem.W.keepIn K (.ref f8) = true)
    (a9 : PySem.W.nsIn K mainGlobals "is_names" = some (some (.ref f9))) (l9 : K.lookup f9 = some ⟨oc9, od9, .func (PySem.W.fnOf "is_names" "is_names" (defArgs s_is_names) (defBody s_is_names) (defScope s_is_names) .none kV9 dc9 pm9 an9 cd9 ct9), sl9⟩) (c9 : PySem.W.codeIn K cd9 "is_names" = true) (k9 : PySem.W.keepIn K (.ref f9) = true)
    (a10 : PySem.W.nsIn K mainGlobals "is_names_list" = some (some (.ref f10))) (l10 : K.lookup f10 = some ⟨oc10, od10, .func (PySem.W.fnOf "is_names_list" "is_names_list" (defArgs s_is_names_list) (defBody s_is_names_list) (defScope s_is_names_list) .none kV10 dc10 pm10 an10 cd10 ct10), sl10⟩) (c10 : PySem.W.codeIn K cd10 "is_names_list" = true) (k10 : PySem.W.keepIn K (.ref f10) = true)
    (a11 : PySem.W.nsIn K mainGlobals "_law_bag" = some (some (.ref f11))) (l11 : K.lookup f11 = some ⟨oc11, od11, .func (PySem.W.fnOf "_law_bag" "_law_bag" (defArgs s__law_bag) (defBody s__law_bag) (defScope s__law_bag) .none kV11 dc11 pm11 an11 cd11 ct11), sl11⟩) (c11 : PySem.W.codeIn K cd11 "_law_bag" = true) (k11 : PySem.W.keepIn K (.ref f11) = true)
    (a12 : PySem.W.nsIn K mainGlobals "_law_take" = some (some (.ref f12))) (l12 : K.lookup f12 = some ⟨oc12, od12, .func (PySem.W.fnOf "_law_take" "_law_take" (defArgs s__law_take) (defBody s__law_take) (defScope s__law_take) .none kV12 dc12 pm12 an12 cd12 ct12), sl12⟩) (c12 : PySem.W.codeIn K cd12 "_law_take" = true) (k12 : PySem.W.keepIn K (.ref f12) = true)
    (a13 : PySem.W.nsIn K mainGlobals "_law_some" = some (some (.ref f13))) (l13 : K.lookup f13 = some ⟨oc13, od13, .func (PySem.W.fnOf "_law_some" "_law_some" (defArgs s__law_some) (defBody s__law_some) (defScope s__law_some) .none kV13 dc13 pm13 an13 cd13 ct13), sl13⟩) (c13 : PySem.W.codeIn K cd13 "_law_some" = true) (k13 : PySem.W.keepIn K (.ref f13) = true)
    (a14 : PySem.W.nsIn K mainGlobals "_law_alike" = some (some (.ref f14))) (l14 : K.lookup f14 = some ⟨oc14, od14, .func (PySem.W.fnOf "_law_alike" "_law_alike" (defArgs s__law_alike) (defBody s__law_alike) (defScope s__law_alike) .none kV14 dc14 pm14 an14 cd14 ct14), sl14⟩) (c14 : PySem.W.codeIn K cd14 "_law_alike" = true) (k14 : PySem.W.keepIn K (.ref f14) = true)
    (a15 : PySem.W.nsIn K mainGlobals "_law_odds" = some (some (.ref f15))) (l15 : K.lookup f15 = some ⟨oc15, od15, .func (PySem.W.fnOf "_law_odds" "_law_odds" (defArgs s__law_odds) (defBody s__law_odds) (defScope s__law_odds) .none kV15 dc15 pm15 an15 cd15 ct15), sl15⟩) (c15 : PySem.W.codeIn K cd15 "_law_odds" = true) (k15 : PySem.W.keepIn K (.ref f15) = true)
    (a16 : PySem.W.nsIn K mainGlobals "_law_whole" = some (some (.ref f16))) (l16 : K.lookup f16 = some ⟨oc16, od16, .func (PySem.W.fnOf "_law_whole" "_law_whole" (defArgs s__law_whole) (defBody s__law_whole) (defScope s__law_whole) .none kV16 dc16 pm16 an16 cd16 ct16), sl16⟩) (c16 : PySem.W.codeIn K cd16 "_law_whole" = true) (k16 : PySem.W.keepIn K (.ref f16) = true)
    (a17 : PySem.W.nsIn K mainGlobals "_law_is_in" = some (some (.ref f17))) (l17 : K.lookup f17 = some ⟨oc17, od17, .func (PySem.W.fnOf "_law_is_in" "_law_is_in" (defArgs s__law_is_in) (defBody s__law_is_in) (defScope s__law_is_in) .none kV17 dc17 pm17 an17 cd17 ct17), sl17⟩) (c17 : PySem.W.codeIn K cd17 "_law_is_in" = true) (k17 : PySem.W.keepIn K (.ref f17) = true)
    (a18 : PySem.W.nsIn K mainGlobals "_law_is_called" = some (some (.ref f18))) (l18 : K.lookup f18 = some ⟨oc18, od18, .func (PySem.W.fnOf "_law_is_called" "_law_is_called" (defArgs s__law_is_called) (defBody s__law_is_called) (defScope s__law_is_called) .none kV18 dc18 pm18 an18 cd18 ct18), sl18⟩) (c18 : PySem.W.codeIn K cd18 "_law_is_called" = true) (k18 : PySem.W.keepIn K (.ref f18) = true)
    (a19 : PySem.W.nsIn K mainGlobals "_law_rises" = some (some (.ref f19))) (l19 : K.lookup f19 = some ⟨oc19, od19, .func (PySem.W.fnOf "_law_rises" "_law_rises" (defArgs s__law_rises) (defBody s__law_rises) (defScope s__law_rises) .none kV19 dc19 pm19 an19 cd19 ct19), sl19⟩) (c19 : PySem.W.codeIn K cd19 "_law_rises" = true) (k19 : PySem.W.keepIn K (.ref f19) = true)
    (a20 : PySem.W.nsIn K mainGlobals "law" = some (some (.ref f20))) (l20 : K.lookup f20 = some ⟨oc20, od20, .func (PySem.W.fnOf "law" "law" (defArgs s_law) (defBody s_law) (defScope s_law) .none kV20 dc20 pm20 an20 cd20 ct20), sl20⟩) (c20 : PySem.W.codeIn K cd20 "law" = true) (k20 : PySem.W.keepIn K (.ref f20) = true)
    (z_abs : PySem.W.nsIn K mainGlobals "abs" = some none)
    (z_all : PySem.W.nsIn K mainGlobals "all" = some none)
    (z_bool : PySem.W.nsIn K mainGlobals "bool" = some none)
    (z_int : PySem.W.nsIn K mainGlobals "int" = some none)
    (z_isinstance : PySem.W.nsIn K mainGlobals "isinstance" = some none)
    (z_len : PySem.W.nsIn K mainGlobals "len" = some none)
    (z_range : PySem.W.nsIn K mainGlobals "range" = some none)
    (z_repr : PySem.W.nsIn K mainGlobals "repr" = some none)
    (z_set : PySem.W.nsIn K mainGlobals "set" = some none)
    (z_sorted : PySem.W.nsIn K mainGlobals "sorted" = some none)
    (z_str : PySem.W.nsIn K mainGlobals "str" = some none)
    (z_tuple : PySem.W.nsIn K mainGlobals "tuple" = some none)
    (z_zip : PySem.W.nsIn K mainGlobals "zip" = some none)
    {t_DIGITS : Tok} (ca_DIGITS : PySem.W.nsIn K mainGlobals "DIGITS" = some (some (.str "0123456789" t_DIGITS)))
    {t_LETTERS : Tok} (ca_LETTERS : PySem.W.nsIn K mainGlobals "LETTERS" = some (some (.str "abcdefghijklmnopqrstuvwxyz" t_LETTERS)))
    {t_MOST_LENGTH : Tok} (ca_MOST_LENGTH : PySem.W.nsIn K mainGlobals "MOST_LENGTH" = some (some (.int 12 t_MOST_LENGTH)))
    {t_MOST_SIGNS : Tok} (ca_MOST_SIGNS : PySem.W.nsIn K mainGlobals "MOST_SIGNS" = some (some (.int 8 t_MOST_SIGNS)))
    {t_MOST_THING : Tok} (ca_MOST_THING : PySem.W.nsIn K mainGlobals "MOST_THING" = some (some (.int 999 t_MOST_THING)))
    {r_RESERVED : Addr} {ro_RESERVED : Option Addr} {rs_RESERVED : Array (Option Value)} {rn_RESERVED : Nat} {ru_RESERVED : List Value} (ra_RESERVED : PySem.W.nsIn K mainGlobals "RESERVED" = some (some (.ref r_RESERVED))) (rl_RESERVED : K.lookup r_RESERVED = some ⟨.type "tuple", ro_RESERVED, .seq ru_RESERVED.toArray rn_RESERVED, rs_RESERVED⟩) (rv_RESERVED : StrsAre ru_RESERVED v_RESERVED)
    : ∃ (fd : FuncData) (F : FF), (∀ (s : Shared) (v : Value), BindsTo s fd ⟨[v], []⟩ [("script", v)]) ∧ (∀ base : Heap, K.In base → base.Ns mainGlobals mg → FnG l.prog w K mg base 6 fa fd ["script"] F) ∧
      ∀ ns : List Int, ns.length ≤ 63 → (∀ z ∈ ns, Builtin.Int.intBits z ≤ 1048576) → ∃ S, F [.fro (ns.map .int)] [] = some (.bl true, S) := by
  have e := hfa.symm.trans (PySem.W.mg_of X G a20)
  cases e
  have T : Tp K mg := ⟨PySem.W.mg_none_of X G z_abs, PySem.W.mg_none_of X G z_all, PySem.W.mg_none_of X G z_bool, PySem.W.mg_none_of X G z_int, PySem.W.mg_none_of X G z_isinstance, PySem.W.mg_none_of X G z_len, PySem.W.mg_none_of X G z_range, PySem.W.mg_none_of X G z_repr, PySem.W.mg_none_of X G z_set, PySem.W.mg_none_of X G z_sorted, PySem.W.mg_none_of X G z_str, PySem.W.mg_none_of X G z_tuple, PySem.W.mg_none_of X G z_zip, ⟨t_DIGITS, PySem.W.mg_of X G ca_DIGITS⟩, ⟨t_LETTERS, PySem.W.mg_of X G ca_LETTERS⟩, ⟨t_MOST_LENGTH, PySem.W.mg_of X G ca_MOST_LENGTH⟩, ⟨t_MOST_SIGNS, PySem.W.mg_of X G ca_MOST_SIGNS⟩, ⟨t_MOST_THING, PySem.W.mg_of X G ca_MOST_THING⟩, tupS_of (PySem.W.mg_of X G ra_RESERVED) rl_RESERVED (by rw [strsAre_len rv_RESERVED]; decide) rv_RESERVED⟩
  have F_0 := fun_mk (st := s_is_integer) l0 c0 k0
  have b_0 := F_0.binds (ps := ["thing"]) fun _ _ _ _ _ _ us hl => match us, hl with | [_], _ => rfl
  have m_0 := PySem.W.mg_of X G a0
  have F_1 := fun_mk (st := s_is_count) l1 c1 k1
  have b_1 := F_1.binds (ps := ["thing"]) fun _ _ _ _ _ _ us hl => match us, hl with | [_], _ => rfl
  have m_1 := PySem.W.mg_of X G a1
  have F_2 := fun_mk (st := s_is_between) l2 c2 k2
  have b_2 := F_2.binds (ps := ["thing", "least", "most"]) fun _ _ _ _ _ _ us hl => match us, hl with | [_, _, _], _ => rfl
  have m_2 := PySem.W.mg_of X G a2
  have F_3 := fun_mk (st := s_is_name) l3 c3 k3
  have b_3 := F_3.binds (ps := ["thing"]) fun _ _ _ _ _ _ us hl => match us, hl with | [_], _ => rfl
  have m_3 := PySem.W.mg_of X G a3
  have F_4 := fun_mk (st := s_is_thing) l4 c4 k4
  have b_4 := F_4.binds (ps := ["thing"]) fun _ _ _ _ _ _ us hl => match us, hl with | [_], _ => rfl
  have m_4 := PySem.W.mg_of X G a4
  have F_5 := fun_mk (st := s_is_length) l5 c5 k5
  have b_5 := F_5.binds (ps := ["thing"]) fun _ _ _ _ _ _ us hl => match us, hl with | [_], _ => rfl
  have m_5 := PySem.W.mg_of X G a5
  have F_6 := fun_mk (st := s_is_tuple_of) l6 c6 k6
  have b_6 := F_6.binds (ps := ["thing", "is_item"]) fun _ _ _ _ _ _ us hl => match us, hl with | [_, _], _ => rfl
  have m_6 := PySem.W.mg_of X G a6
  have F_7 := fun_mk (st := s_are_ascending) l7 c7 k7
  have b_7 := F_7.binds (ps := ["things"]) fun _ _ _ _ _ _ us hl => match us, hl with | [_], _ => rfl
  have m_7 := PySem.W.mg_of X G a7
  have F_8 := fun_mk (st := s_is_counts) l8 c8 k8
  have b_8 := F_8.binds (ps := ["thing"]) fun _ _ _ _ _ _ us hl => match us, hl with | [_], _ => rfl
  have m_8 := PySem.W.mg_of X G a8
  have F_9 := fun_mk (st := s_is_names) l9 c9 k9
  have b_9 := F_9.binds (ps := ["thing"]) fun _ _ _ _ _ _ us hl => match us, hl with | [_], _ => rfl
  have m_9 := PySem.W.mg_of X G a9
  have F_10 := fun_mk (st := s_is_names_list) l10 c10 k10
  have b_10 := F_10.binds (ps := ["thing"]) fun _ _ _ _ _ _ us hl => match us, hl with | [_], _ => rfl
  have m_10 := PySem.W.mg_of X G a10
  have F_11 := fun_mk (st := s__law_bag) l11 c11 k11
  have b_11 := F_11.binds (ps := ["script"]) fun _ _ _ _ _ _ us hl => match us, hl with | [_], _ => rfl
  have m_11 := PySem.W.mg_of X G a11
  have F_12 := fun_mk (st := s__law_take) l12 c12 k12
  have b_12 := F_12.binds (ps := ["bag", "many"]) fun _ _ _ _ _ _ us hl => match us, hl with | [_, _], _ => rfl
  have m_12 := PySem.W.mg_of X G a12
  have F_13 := fun_mk (st := s__law_some) l13 c13 k13
  have b_13 := F_13.binds (ps := ["bag", "things"]) fun _ _ _ _ _ _ us hl => match us, hl with | [_, _], _ => rfl
  have m_13 := PySem.W.mg_of X G a13
  have F_14 := fun_mk (st := s__law_alike) l14 c14 k14
  have b_14 := F_14.binds (ps := ["found", "due"]) fun _ _ _ _ _ _ us hl => match us, hl with | [_, _], _ => rfl
  have m_14 := PySem.W.mg_of X G a14
  have F_15 := fun_mk (st := s__law_odds) l15 c15 k15
  have b_15 := F_15.binds (ps := []) fun _ _ _ _ _ _ us hl => match us, hl with | [], _ => rfl
  have m_15 := PySem.W.mg_of X G a15
  have F_16 := fun_mk (st := s__law_whole) l16 c16 k16
  have b_16 := F_16.binds (ps := ["thing"]) fun _ _ _ _ _ _ us hl => match us, hl with | [_], _ => rfl
  have m_16 := PySem.W.mg_of X G a16
  have F_17 := fun_mk (st := s__law_is_in) l17 c17 k17
  have b_17 := F_17.binds (ps := ["thing", "least", "most"]) fun _ _ _ _ _ _ us hl => match us, hl with | [_, _, _], _ => rfl
  have m_17 := PySem.W.mg_of X G a17
  have F_18 := fun_mk (st := s__law_is_called) l18 c18 k18
  have b_18 := F_18.binds (ps := ["thing"]) fun _ _ _ _ _ _ us hl => match us, hl with | [_], _ => rfl
  have m_18 := PySem.W.mg_of X G a18
  have F_19 := fun_mk (st := s__law_rises) l19 c19 k19
  have b_19 := F_19.binds (ps := ["things"]) fun _ _ _ _ _ _ us hl => match us, hl with | [_], _ => rfl
  have m_19 := PySem.W.mg_of X G a19
  have F_20 := fun_mk (st := s_law) l20 c20 k20
  have b_20 := F_20.binds (ps := ["script"]) fun _ _ _ _ _ _ us hl => match us, hl with | [_], _ => rfl
  have m_20 := PySem.W.mg_of X G a20
  refine ⟨PySem.W.fnOf "law" "law" (defArgs s_law) (defBody s_law) (defScope s_law) .none kV20 dc20 pm20 an20 cd20 ct20, (F_law f1 f5 f3), fun s v => .of_eq rfl, fun base _ _ => ?_, fun ns h _ => law_plain ⟨fun_ne F_3 F_1 (by decide), fun_ne F_5 F_1 (by decide), fun_ne F_5 F_3 (by decide)⟩ ns h⟩
  have G_0 := g_is_integer (P := l.prog) (w := w) (base := base) T F_0
  have D_0 := def_of F_0 m_0 G_0 b_0
  have G_1 := g_is_count (P := l.prog) (w := w) (base := base) T F_1 D_0
  have D_1 := def_of F_1 m_1 G_1 b_1
  have G_2 := g_is_between (P := l.prog) (w := w) (base := base) T F_2 D_0
  have D_2 := def_of F_2 m_2 G_2 b_2
  have G_3 := g_is_name (P := l.prog) (w := w) (base := base) T F_3
  have D_3 := def_of F_3 m_3 G_3 b_3
  have G_4 := g_is_thing (P := l.prog) (w := w) (base := base) T F_4 D_2
  have D_4 := def_of F_4 m_4 G_4 b_4
  have G_5 := g_is_length (P := l.prog) (w := w) (base := base) T F_5 D_2
  have D_5 := def_of F_5 m_5 G_5 b_5
  have G_6 := g_is_tuple_of (P := l.prog) (w := w) (base := base) T F_6 m_1 m_3 m_5 D_1 D_3 D_5
  have D_6 := def_of F_6 m_6 G_6 b_6
  have G_7 := g_are_ascending (P := l.prog) (w := w) (base := base) T F_7
  have D_7 := def_of F_7 m_7 G_7 b_7
  have G_8 := g_is_counts (P := l.prog) (w := w) (base := base) T F_8 m_1 D_6 D_7
  have D_8 := def_of F_8 m_8 G_8 b_8
  have G_9 := g_is_names (P := l.prog) (w := w) (base := base) T F_9 m_3 D_6 D_7
  have D_9 := def_of F_9 m_9 G_9 b_9
  have G_10 := g_is_names_list (P := l.prog) (w := w) (base := base) T F_10 m_3 D_6
  have D_10 := def_of F_10 m_10 G_10 b_10
  have G_11 := g__law_bag (P := l.prog) (w := w) (base := base) T F_11
  have D_11 := def_of F_11 m_11 G_11 b_11
  have G_12 := g__law_take (P := l.prog) (w := w) (base := base) T F_12
  have D_12 := def_of F_12 m_12 G_12 b_12
  have G_13 := g__law_some (P := l.prog) (w := w) (base := base) T F_13 D_12
  have D_13 := def_of F_13 m_13 G_13 b_13
  have G_14 := g__law_alike (P := l.prog) (w := w) (base := base) T F_14
  have D_14 := def_of F_14 m_14 G_14 b_14
  have G_15 := g__law_odds (P := l.prog) (w := w) (base := base) T F_15
  have D_15 := def_of F_15 m_15 G_15 b_15
  have G_16 := g__law_whole (P := l.prog) (w := w) (base := base) T F_16
  have D_16 := def_of F_16 m_16 G_16 b_16
  have G_17 := g__law_is_in (P := l.prog) (w := w) (base := base) T F_17 D_16
  have D_17 := def_of F_17 m_17 G_17 b_17
  have G_18 := g__law_is_called (P := l.prog) (w := w) (base := base) T F_18
  have D_18 := def_of F_18 m_18 G_18 b_18
  have G_19 := g__law_rises (P := l.prog) (w := w) (base := base) T F_19
  have D_19 := def_of F_19 m_19 G_19 b_19
  have G_20 := g_law (P := l.prog) (w := w) (base := base) T F_20 m_1 m_3 m_5 D_11 D_12 D_13 D_15 D_16 D_18 D_19 D_0 D_1 D_3 D_8 D_9 D_10 D_14 D_4 D_5 D_2 D_17 D_6
  have D_20 := def_of F_20 m_20 G_20 b_20
  exact G_20
end K00

set_option Elab.async false
set_option linter.all false
set_option maxRecDepth 100000
set_option autoImplicit false
open PySem PySem.W PyProof.Rows
set_option maxHeartbeats 0 in
theorem PySem.Challenge.cw_pagebooks_k00_forms_of_any_values_holds : PySem.Challenge.rw_pagebooks_k00_forms_of_any_values.Holds := by
  w_on; o_law; k_head; (case hw => w_witness2)
  k_fill
  refine Mir.walkG (l := PySem.Challenge.rw_pagebooks_k00_forms_of_any_values) (n := 63) (k := 6) (x := "script") rfl (by decide) rfl ⟨rfl, by decide, by decide⟩ (fun w h Y => PySem.W.kIn_of Y) ?F
  case F =>
    intro w mg fa h KX G hmg
    refine' K00.all_mk KX G hmg ?a0 ?l0 ?c0 ?k0 ?a1 ?l1 ?c1 ?k1 ?a2 ?l2 ?c2 ?k2 ?a3 ?l3 ?c3 ?k3 ?a4 ?l4 ?c4 ?k4 ?a5 ?l5 ?c5 ?k5 ?a6 ?l6 ?c6 ?k6 ?a7 ?l7 ?c7 ?k7 ?a8 ?l8 ?c8 ?k8 ?a9 ?l9 ?c9 ?k9 ?a10 ?l10 ?c10 ?k10 ?a11 ?l11 ?c11 ?k11 ?a12 ?l12 ?c12 ?k12 ?a13 ?l13 ?c13 ?k13 ?a14 ?l14 ?c14 ?k14 ?a15 ?l15 ?c15 ?k15 ?a16 ?l16 ?c16 ?k16 ?a17 ?l17 ?c17 ?k17 ?a18 ?l18 ?c18 ?k18 ?a19 ?l19 ?c19 ?k19 ?a20 ?l20 ?c20 ?k20 ?z_abs ?z_all ?z_bool ?z_int ?z_isinstance ?z_len ?z_range ?z_repr ?z_set ?z_sorted ?z_str ?z_tuple ?z_zip ?ca_DIGITS ?ca_LETTERS ?ca_MOST_LENGTH ?ca_MOST_SIGNS ?ca_MOST_THING ?ra_RESERVED ?rl_RESERVED ?rv_RESERVED
    (case a0 => k_is); (case l0 => k_is); (case c0 => k_is); (case k0 => k_is)
    (case a1 => k_is); (case l1 => k_is); (case c1 => k_is); (case k1 => k_is)
    (case a2 => k_is); (case l2 => k_is); (case c2 => k_is); (case k2 => k_is)
    (case a3 => k_is); (case l3 => k_is); (case c3 => k_is); (case k3 => k_is)
    (case a4 => k_is); (case l4 => k_is); (case c4 => k_is); (case k4 => k_is)
    (case a5 => k_is); (case l5 => k_is); (case c5 => k_is); (case k5 => k_is)
    (case a6 => k_is); (case l6 => k_is); (case c6 => k_is); (case k6 => k_is)
    (case a7 => k_is); (case l7 => k_is); (case c7 => k_is); (case k7 => k_is)
    (case a8 => k_is); (case l8 => k_is); (case c8 => k_is); (case k8 => k_is)
    (case a9 => k_is); (case l9 => k_is); (case c9 => k_is); (case k9 => k_is)
    (case a10 => k_is); (case l10 => k_is); (case c10 => k_is); (case k10 => k_is)
    (case a11 => k_is); (case l11 => k_is); (case c11 => k_is); (case k11 => k_is)
    (case a12 => k_is); (case l12 => k_is); (case c12 => k_is); (case k12 => k_is)
    (case a13 => k_is); (case l13 => k_is); (case c13 => k_is); (case k13 => k_is)
    (case a14 => k_is); (case l14 => k_is); (case c14 => k_is); (case k14 => k_is)
    (case a15 => k_is); (case l15 => k_is); (case c15 => k_is); (case k15 => k_is)
    (case a16 => k_is); (case l16 => k_is); (case c16 => k_is); (case k16 => k_is)
    (case a17 => k_is); (case l17 => k_is); (case c17 => k_is); (case k17 => k_is)
    (case a18 => k_is); (case l18 => k_is); (case c18 => k_is); (case k18 => k_is)
    (case a19 => k_is); (case l19 => k_is); (case c19 => k_is); (case k19 => k_is)
    (case a20 => k_is); (case l20 => k_is); (case c20 => k_is); (case k20 => k_is)
    (case z_abs => k_is); (case z_all => k_is); (case z_bool => k_is); (case z_int => k_is)
    (case z_isinstance => k_is); (case z_len => k_is); (case z_range => k_is); (case z_repr => k_is)
    (case z_set => k_is); (case z_sorted => k_is); (case z_str => k_is); (case z_tuple => k_is)
    (case z_zip => k_is); (case ca_DIGITS => k_is); (case ca_LETTERS => k_is); (case ca_MOST_LENGTH => k_is)
    (case ca_MOST_SIGNS => k_is); (case ca_MOST_THING => k_is); (case ra_RESERVED => k_is); (case rl_RESERVED => k_is)
    (case rv_RESERVED => exact (.cons _ _ (.cons _ _ (.cons _ _ (.cons _ _ (.cons _ _ (.cons _ _ (.cons _ _ (.cons _ _ (.cons _ _ (.cons _ _ (.cons _ _ (.cons _ _ .nil)))))))))))))
