import PyProof.Rows.All
import Wide.All
import OpenK.AllK
import Wide.FinOn
import HandS.ForMost
import HandS.EndBits
import HandS.TupAny
import HandS.IsInst
import HandS.Zip
import HandS.CallLocal
import HandS.RaiseMore
import HandS.SortInts
import HandS.Dict
import HandS.More
import HandS.WordsList
import HandS.Text
import HandS.Style
import HandS.MapJoin
import PySem.Challenge.RW_pagebooks_k02_lines_gone_over_by_scans
set_option Elab.async false
set_option linter.all false
set_option maxRecDepth 100000
set_option autoImplicit false
/-! Mir: a mirror of Python values and stores over the layer HandS. Values are data (immutable) or places of a store (mutable);
a piece of syntax is worth a plain Lean function; soundness is said once for each construct. -/
namespace Mir
open PySem L2

/-- a value: data; a place of the store; a value of the layer as it is (a def, a class, a type) -/
inductive D where
  | non | bl (b : Bool) | int (i : Int) | str (x : Str)
  | tup (ds : List D) | lst (ds : List D) | fro (ds : List D) | dic (ks : List Key) (ds : List D)
  | loc (n : Nat) | raw (v : V)

/-- a mutable object -/
inductive O where
  | lst (ds : List D) | dic (ks : List Key) (ds : List D) | ins (C : Addr) (fs : List Str) (ds : List D)

abbrev Env := List (Option D)
abbrev Store := List O
/-- where the places of the store lie -/
abbrev Bt := Nat → Option Addr
def Out (β : Bt) (a : Addr) : Prop := ∀ n, β n ≠ some a
def KL (K : PySem.W.Frag) (a : Addr) (xs : List V) : Prop :=
  ∃ (o : Obj) (its : Array Value) (n : Nat), K.lookup a = some o ∧ o.cls = .type "list" ∧ o.dict = none ∧ o.data = .seq its n ∧ its.size ≤ sizeLine ∧ Vals xs its.toList
def KT (K : PySem.W.Frag) (a : Addr) (xs : List V) : Prop :=
  ∃ (o : Obj) (its : Array Value) (n : Nat), K.lookup a = some o ∧ o.cls = .type "tuple" ∧ o.data = .seq its n ∧ its.size ≤ sizeLine ∧ Vals xs its.toList

mutual
inductive RD (K : PySem.W.Frag) (β : Bt) (H : Hp) : D → V → Prop where
  | non : RD K β H .non .non
  | bl (b : Bool) : RD K β H (.bl b) (.bl b)
  | int (i : Int) : RD K β H (.int i) (.int i)
  | str (x : Str) : RD K β H (.str x) (.str x)
  | tup {a : Addr} {ds : List D} {vs : List V} : Rd H a (.tup vs) → Out β a → RDs K β H ds vs → RD K β H (.tup ds) (.ref a)
  | ktup {a : Addr} {ds : List D} {vs : List V} : KT K a vs → RDs K β H ds vs → RD K β H (.tup ds) (.ref a)
  | lst {a : Addr} {ds : List D} {vs : List V} : H a = some (.lst vs) → Out β a → RDs K β H ds vs → RD K β H (.lst ds) (.ref a)
  | fro {a : Addr} {ds : List D} {vs : List V} : Rd H a (.lst vs) → Out β a → RDs K β H ds vs → RD K β H (.fro ds) (.ref a)
  | kfro {a : Addr} {ds : List D} {vs : List V} : KL K a vs → RDs K β H ds vs → RD K β H (.fro ds) (.ref a)
  | dic {a : Addr} {ks : List Key} {ds : List D} {kvs : List (Key × V)} : H a = some (.dK kvs) → Out β a → kvs.map (·.1) = ks → RDs K β H ds (kvs.map (·.2)) → RD K β H (.dic ks ds) (.ref a)
  | loc {n : Nat} {a : Addr} : β n = some a → RD K β H (.loc n) (.ref a)
  | raw (v : V) : RD K β H (.raw v) v
inductive RDs (K : PySem.W.Frag) (β : Bt) (H : Hp) : List D → List V → Prop where
  | nil : RDs K β H [] []
  | cons {d : D} {v : V} {ds : List D} {vs : List V} : RD K β H d v → RDs K β H ds vs → RDs K β H (d :: ds) (v :: vs)
end

/-- what stays through a piece of code -/
structure Step (β : Bt) (H : Hp) (β' : Bt) (H' : Hp) : Prop where
  keep : ∀ a o, H a = some o → Out β a → H' a = some o
  ext : ∀ n a, β n = some a → β' n = some a
  new : ∀ n a, β' n = some a → β n = some a ∨ H a = none
  live : ∀ a o, H a = some o → ∃ o', H' a = some o'

section
variable {K : PySem.W.Frag} {β β' β2 : Bt} {H H' H2 : Hp} {d : D} {v : V} {ds : List D} {vs : List V} {a : Addr}
theorem Step.refl : Step β H β H := ⟨fun _ _ h _ => h, fun _ _ h => h, fun _ _ h => .inl h, fun _ o h => ⟨o, h⟩⟩
theorem Step.out (st : Step β H β' H') {o : HO} (h : H a = some o) (n : Out β a) : Out β' a := fun i e => by
  rcases st.new i a e with q | q
  · exact n i q
  · rw [h] at q; cases q
theorem Step.trans (s : Step β H β' H') (t : Step β' H' β2 H2) : Step β H β2 H2 where
  keep := fun a o h n => t.keep a o (s.keep a o h n) (s.out h n)
  ext := fun n a h => t.ext n a (s.ext n a h)
  new := fun n a h => by
    rcases t.new n a h with q | q
    · exact s.new n a q
    · cases e : H a with
      | none => exact .inr rfl
      | some o =>
        obtain ⟨o', e'⟩ := s.live a o e
        rw [e'] at q; cases q
  live := fun a o h => by
    obtain ⟨o', e'⟩ := s.live a o h
    exact t.live a o' e'
/-- a new object is laid -/
theorem Step.laid {p : Addr} {o : HO} (h : H p = none) : Step β H β (upd H p o) where
  keep := fun a u e _ => by rw [upd_ne (ne_of_none e h)]; exact e
  ext := fun _ _ h => h
  new := fun _ _ h => .inl h
  live := fun a u e => ⟨u, by rw [upd_ne (ne_of_none e h)]; exact e⟩
theorem Rd.some {u : HO} (h : Rd H a u) : ∃ o, H a = some o ∧ (∀ H' : Hp, H' a = some o → Rd H' a u) := by
  rcases h with h | ⟨o, h⟩
  · exact ⟨_, h, fun _ e => .inl e⟩
  · exact ⟨_, h, fun _ e => .inr ⟨o, e⟩⟩
theorem Step.rd {u : HO} (st : Step β H β' H') (h : Rd H a u) (n : Out β a) : Rd H' a u ∧ Out β' a := by
  obtain ⟨o, e, f⟩ := Rd.some h
  exact ⟨f H' (st.keep a o e n), st.out e n⟩

mutual
theorem RD.step (st : Step β H β' H') : ∀ (d : D) (v : V), RD K β H d v → RD K β' H' d v
  | .non, _, h => by cases h; exact .non
  | .bl _, _, h => by cases h; exact .bl _
  | .int _, _, h => by cases h; exact .int _
  | .str _, _, h => by cases h; exact .str _
  | .tup ds, _, h => by
    cases h with
    | tup h1 h2 h3 => exact .tup (st.rd h1 h2).1 (st.rd h1 h2).2 (RDs.step st ds _ h3)
    | ktup h1 h3 => exact .ktup h1 (RDs.step st ds _ h3)
  | .lst ds, _, h => by
    cases h with
    | lst h1 h2 h3 => exact .lst (st.keep _ _ h1 h2) (st.out h1 h2) (RDs.step st ds _ h3)
  | .fro ds, _, h => by
    cases h with
    | fro h1 h2 h3 => exact .fro (st.rd h1 h2).1 (st.rd h1 h2).2 (RDs.step st ds _ h3)
    | kfro h1 h3 => exact .kfro h1 (RDs.step st ds _ h3)
  | .dic ks ds, _, h => by
    cases h with
    | dic h1 h2 h4 h3 => exact .dic (st.keep _ _ h1 h2) (st.out h1 h2) h4 (RDs.step st ds _ h3)
  | .loc n, _, h => by cases h with | loc h => exact .loc (st.ext _ _ h)
  | .raw v, _, h => by cases h; exact .raw v
theorem RDs.step (st : Step β H β' H') : ∀ (ds : List D) (vs : List V), RDs K β H ds vs → RDs K β' H' ds vs
  | [], _, h => by cases h; exact .nil
  | d :: ds, _, h => by cases h with | cons h1 h2 => exact .cons (RD.step st d _ h1) (RDs.step st ds _ h2)
end
theorem RDs.length : ∀ {ds : List D} {vs : List V}, RDs K β H ds vs → ds.length = vs.length
  | [], _, h => by cases h; rfl
  | d :: ds, _, h => by cases h with | cons h1 h2 => simp [RDs.length h2]
theorem RDs.get : ∀ {ds : List D} {vs : List V} {i : Nat} {d : D}, RDs K β H ds vs → ds[i]? = some d → ∃ v, vs[i]? = some v ∧ RD K β H d v
  | [], _, _, _, h, e => by simp at e
  | x :: ds, _, 0, d, h, e => by cases h with | cons h1 h2 => simp at e; subst e; exact ⟨_, rfl, h1⟩
  | x :: ds, _, i + 1, d, h, e => by cases h with | cons h1 h2 => exact RDs.get (i := i) h2 (by simpa using e)
theorem RDs.getV : ∀ {ds : List D} {vs : List V} {i : Nat} {v : V}, RDs K β H ds vs → vs[i]? = some v → ∃ d, ds[i]? = some d ∧ RD K β H d v
  | _, [], _, _, h, e => by simp at e
  | _, x :: vs, 0, d, h, e => by cases h with | cons h1 h2 => simp at e; subst e; exact ⟨_, rfl, h1⟩
  | _, x :: vs, i + 1, d, h, e => by cases h with | cons h1 h2 => exact RDs.getV (i := i) h2 (by simpa using e)
theorem RDs.append : ∀ {ds es : List D} {vs ws : List V}, RDs K β H ds vs → RDs K β H es ws → RDs K β H (ds ++ es) (vs ++ ws)
  | [], _, _, _, h, g => by cases h; exact g
  | d :: ds, _, _, _, h, g => by cases h with | cons h1 h2 => exact .cons h1 (RDs.append h2 g)
theorem RDs.set {d : D} {v : V} (r : RD K β H d v) : ∀ {ds : List D} {vs : List V} (i : Nat), RDs K β H ds vs → RDs K β H (ds.set i d) (vs.set i v)
  | [], _, _, h => by cases h; exact .nil
  | x :: ds, _, 0, h => by cases h with | cons h1 h2 => exact .cons r h2
  | x :: ds, _, i + 1, h => by cases h with | cons h1 h2 => exact .cons h1 (RDs.set r i h2)
theorem RDs.take : ∀ {ds : List D} {vs : List V} (i : Nat), RDs K β H ds vs → RDs K β H (ds.take i) (vs.take i)
  | _, _, 0, h => by simp; exact .nil
  | [], _, _, h => by cases h; simp; exact .nil
  | x :: ds, _, i + 1, h => by cases h with | cons h1 h2 => exact .cons h1 (RDs.take i h2)
theorem RDs.drop : ∀ {ds : List D} {vs : List V} (i : Nat), RDs K β H ds vs → RDs K β H (ds.drop i) (vs.drop i)
  | _, _, 0, h => by simpa using h
  | [], _, _, h => by cases h; simp; exact .nil
  | x :: ds, _, i + 1, h => by cases h with | cons h1 h2 => simpa using RDs.drop i h2
theorem RDs.one (h : RD K β H d v) : RDs K β H [d] [v] := .cons h .nil

/-! ### what is read of a value -/
theorem RD.sqt {ds : List D} {v : V} (h : RD K β H (.tup ds) v) : ∃ a vs, v = .ref a ∧ SqT K H a vs ∧ RDs K β H ds vs := by
  cases h with
  | tup h1 h2 h3 => exact ⟨_, _, rfl, .inl h1, h3⟩
  | ktup h1 h3 => exact ⟨_, _, rfl, .inr h1, h3⟩
theorem RD.sql {ds : List D} {v : V} (h : RD K β H (.lst ds) v) : ∃ a vs, v = .ref a ∧ SqL K H a vs ∧ RDs K β H ds vs := by
  cases h with
  | lst h1 h2 h3 => exact ⟨_, _, rfl, .inl (.inl h1), h3⟩
theorem RD.sqf {ds : List D} {v : V} (h : RD K β H (.fro ds) v) : ∃ a vs, v = .ref a ∧ SqL K H a vs ∧ RDs K β H ds vs := by
  cases h with
  | fro h1 h2 h3 => exact ⟨_, _, rfl, .inl h1, h3⟩
  | kfro h1 h3 => exact ⟨_, _, rfl, .inr h1, h3⟩
theorem RD.lst_inv {ds : List D} {v : V} (h : RD K β H (.lst ds) v) : ∃ a vs, v = .ref a ∧ H a = some (.lst vs) ∧ Out β a ∧ RDs K β H ds vs := by
  cases h with
  | lst h1 h2 h3 => exact ⟨_, _, rfl, h1, h2, h3⟩

/-! ### objects, the store -/
inductive RO (K : PySem.W.Frag) (β : Bt) (H : Hp) : O → HO → Prop where
  | lst {ds : List D} {vs : List V} : RDs K β H ds vs → RO K β H (.lst ds) (.lst vs)
  | dic {ks : List Key} {ds : List D} {kvs : List (Key × V)} : kvs.map (·.1) = ks → RDs K β H ds (kvs.map (·.2)) → RO K β H (.dic ks ds) (.dK kvs)
  | ins {C dx : Addr} {ns : List Str} {ds : List D} {fs : List (Str × V)} : fs.map (·.1) = ns → RDs K β H ds (fs.map (·.2)) → RO K β H (.ins C ns ds) (.ins C dx fs)
theorem RO.step {o : O} {u : HO} (st : Step β H β' H') (h : RO K β H o u) : RO K β' H' o u := by
  cases h with
  | lst h => exact .lst (RDs.step st _ _ h)
  | dic e h => exact .dic e (RDs.step st _ _ h)
  | ins e h => exact .ins e (RDs.step st _ _ h)

structure RS (K : PySem.W.Frag) (β : Bt) (H : Hp) (S : Store) : Prop where
  dom : ∀ n a, β n = some a → n < S.length
  obj : ∀ n o, S[n]? = some o → ∃ a u, β n = some a ∧ H a = some u ∧ RO K β H o u
  inj : ∀ n m a, β n = some a → β m = some a → n = m
structure RE (K : PySem.W.Frag) (β : Bt) (H : Hp) (env : Env) (σ : L2.St) : Prop where
  len : env.length = σ.length
  get : ∀ (i : Nat) (d : D), env[i]? = some (some d) → ∃ v : V, σ[i]? = some (some v) ∧ RD K β H d v
theorem RE.step {env : Env} {σ : L2.St} (st : Step β H β' H') (h : RE K β H env σ) : RE K β' H' env σ :=
  ⟨h.len, fun i d e => let ⟨v, e', r⟩ := h.get i d e; ⟨v, e', RD.step st _ _ r⟩⟩
theorem RE.set {env : Env} {σ : L2.St} {i : Nat} (h : RE K β H env σ) (r : RD K β H d v) : RE K β H (env.set i (some d)) (σ.set i (some v)) := by
  refine ⟨by simp [h.len], fun j e he => ?_⟩
  by_cases hj : i = j
  · subst hj
    by_cases hl : i < env.length
    · rw [List.getElem?_set_self hl] at he
      cases he
      exact ⟨v, List.getElem?_set_self (by rw [← h.len]; exact hl), r⟩
    · rw [List.getElem?_eq_none (by simpa using hl)] at he; cases he
  · rw [List.getElem?_set_ne hj] at he
    obtain ⟨w, e', r'⟩ := h.get j e he
    exact ⟨w, by rw [List.getElem?_set_ne hj]; exact e', r'⟩
theorem RS.ne {S : Store} (h : RS K β H S) {n : Nat} {a : Addr} (e : β n = some a) : ∃ o u, S[n]? = some o ∧ H a = some u ∧ RO K β H o u := by
  have hn := h.dom n a e
  obtain ⟨b, u, h1, h2, h3⟩ := h.obj n S[n] (List.getElem?_eq_getElem hn)
  rw [e] at h1; cases h1
  exact ⟨_, u, List.getElem?_eq_getElem hn, h2, h3⟩
/-- a new address is out -/
theorem RS.out {S : Store} (h : RS K β H S) {p : Addr} (hp : H p = none) : Out β p := fun n e => by
  obtain ⟨o, u, _, h2, _⟩ := h.ne e
  rw [hp] at h2; cases h2
theorem RS.step0 {S : Store} (st : Step β H β H') (h : RS K β H S) (hk : ∀ n a, β n = some a → H' a = H a) : RS K β H' S :=
  ⟨h.dom, fun n o e => let ⟨a, u, h1, h2, h3⟩ := h.obj n o e; ⟨a, u, h1, by rw [hk n a h1]; exact h2, h3.step st⟩, h.inj⟩
/-- a new object that is no place of the store -/
theorem RS.laid {S : Store} {p : Addr} {o : HO} (h : RS K β H S) (hp : H p = none) : RS K β (upd H p o) S :=
  h.step0 (.laid hp) fun n a e => by
    obtain ⟨_, u, _, h2, _⟩ := h.ne e
    exact upd_ne (ne_of_none h2 hp)
theorem RD.newT {S : Store} {p : Addr} (h : RS K β H S) (hp : H p = none) (r : RDs K β H ds vs) : RD K β (upd H p (.tup vs)) (.tup ds) (.ref p) :=
  .tup (.inl upd_same) (h.out hp) (RDs.step (.laid hp) _ _ r)
theorem RD.newL {S : Store} {p : Addr} (h : RS K β H S) (hp : H p = none) (r : RDs K β H ds vs) : RD K β (upd H p (.lst vs)) (.lst ds) (.ref p) :=
  .lst upd_same (h.out hp) (RDs.step (.laid hp) _ _ r)
theorem RD.newD {S : Store} {p : Addr} {kvs : List (Key × V)} (h : RS K β H S) (hp : H p = none) (r : RDs K β H ds (kvs.map (·.2))) : RD K β (upd H p (.dK kvs)) (.dic (kvs.map (·.1)) ds) (.ref p) :=
  .dic upd_same (h.out hp) rfl (RDs.step (.laid hp) _ _ r)
def bset (β : Bt) (n : Nat) (p : Addr) : Bt := fun i => if i = n then some p else β i
/-- a new object that is a place of the store -/
theorem Step.place {S : Store} {p : Addr} {o : HO} (h : RS K β H S) (hp : H p = none) : Step β H (bset β S.length p) (upd H p o) where
  keep := fun a u e _ => by rw [upd_ne (ne_of_none e hp)]; exact e
  ext := fun n a e => by
    unfold bset
    rw [if_neg (Nat.ne_of_lt (h.dom n a e))]
    exact e
  new := fun n a e => by
    unfold bset at e
    by_cases hn : n = S.length
    · rw [if_pos hn] at e; cases e; exact .inr hp
    · rw [if_neg hn] at e; exact .inl e
  live := fun a u e => ⟨u, by rw [upd_ne (ne_of_none e hp)]; exact e⟩
theorem RS.place {S : Store} {p : Addr} {o : O} {u : HO} (h : RS K β H S) (hp : H p = none) (r : RO K β H o u) : RS K (bset β S.length p) (upd H p u) (S ++ [o]) := by
  have st : Step β H (bset β S.length p) (upd H p u) := .place h hp
  refine ⟨fun n a e => ?_, fun n x e => ?_, fun n m a e1 e2 => ?_⟩
  · unfold bset at e
    rw [List.length_append]
    by_cases hn : n = S.length
    · rw [hn]; exact Nat.lt_succ_self _
    · rw [if_neg hn] at e; exact Nat.lt_succ_of_lt (h.dom n a e)
  · by_cases hn : n < S.length
    · rw [List.getElem?_append_left hn] at e
      obtain ⟨a, w, h1, h2, h3⟩ := h.obj n x e
      exact ⟨a, w, st.ext n a h1, by rw [upd_ne (ne_of_none h2 hp)]; exact h2, h3.step st⟩
    · have hn2 : n = S.length := by
        have := (List.getElem?_eq_some_iff.mp e).1
        rw [List.length_append] at this
        have t1 : ([o] : List O).length = 1 := rfl
        omega
      subst hn2
      simp at e
      subst e
      exact ⟨p, u, by unfold bset; rw [if_pos rfl], upd_same, r.step st⟩
  · unfold bset at e1 e2
    by_cases hn : n = S.length
    · by_cases hm : m = S.length
      · rw [hn, hm]
      · rw [if_pos hn] at e1; rw [if_neg hm] at e2; cases e1
        exact absurd e2 (h.out hp m)
    · by_cases hm : m = S.length
      · rw [if_neg hn] at e1; rw [if_pos hm] at e2; cases e2
        exact absurd e1 (h.out hp n)
      · rw [if_neg hn] at e1; rw [if_neg hm] at e2
        exact h.inj n m a e1 e2
/-- an object of the store is changed -/
theorem Step.write {n : Nat} {u : HO} (e : β n = some a) : Step β H β (upd H a u) where
  keep := fun b o h ho => by rw [upd_ne (fun z => ho n (by rw [z]; exact e))]; exact h
  ext := fun _ _ h => h
  new := fun _ _ h => .inl h
  live := fun b o h => by
    by_cases hb : b = a
    · subst hb; exact ⟨u, upd_same⟩
    · exact ⟨o, by rw [upd_ne hb]; exact h⟩
theorem RS.write {S : Store} {n : Nat} {o : O} {u : HO} (h : RS K β H S) (e : β n = some a) (r : RO K β H o u) : RS K β (upd H a u) (S.set n o) := by
  have st : Step β H β (upd H a u) := .write e
  refine ⟨fun m b hb => by rw [List.length_set]; exact h.dom m b hb, fun m x hx => ?_, h.inj⟩
  by_cases hm : n = m
  · subst hm
    have hl : n < S.length := h.dom n a e
    rw [List.getElem?_set_self hl] at hx
    cases hx
    exact ⟨a, u, e, upd_same, r.step st⟩
  · rw [List.getElem?_set_ne hm] at hx
    obtain ⟨b, w, h1, h2, h3⟩ := h.obj m x hx
    exact ⟨b, w, h1, by rw [upd_ne (fun z => hm (h.inj n m b (by rw [z]; exact e) h1))]; exact h2, h3.step st⟩
end

/-! ### forgetting the places from n on -/
mutual
def D.blw (n : Nat) : D → Bool
  | .non => true | .bl _ => true | .int _ => true | .str _ => true
  | .tup ds => D.blws n ds | .lst ds => D.blws n ds | .fro ds => D.blws n ds | .dic _ ds => D.blws n ds
  | .loc m => decide (m < n) | .raw _ => true
def D.blws (n : Nat) : List D → Bool
  | [] => true
  | d :: ds => D.blw n d && D.blws n ds
end
def O.blw (n : Nat) : O → Bool
  | .lst ds => D.blws n ds | .dic _ ds => D.blws n ds | .ins _ _ ds => D.blws n ds
def bcut (β : Bt) (n : Nat) : Bt := fun i => if i < n then β i else none
section
variable {K : PySem.W.Frag} {β β' : Bt} {H H' : Hp} {d : D} {v : V} {ds : List D} {vs : List V} {a : Addr} {n : Nat}
theorem Out.cut (h : Out β a) : Out (bcut β n) a := fun i e => by
  unfold bcut at e
  split at e
  · exact h i e
  · cases e
mutual
theorem RD.cut : ∀ (d : D) (v : V), RD K β H d v → d.blw n = true → RD K (bcut β n) H d v
  | .non, _, h, _ => by cases h; exact .non
  | .bl _, _, h, _ => by cases h; exact .bl _
  | .int _, _, h, _ => by cases h; exact .int _
  | .str _, _, h, _ => by cases h; exact .str _
  | .tup ds, _, h, b => by
    have b' : D.blws n ds = true := by simpa only [D.blw] using b
    cases h with
    | tup h1 h2 h3 => exact .tup h1 h2.cut (RDs.cut ds _ h3 b')
    | ktup h1 h3 => exact .ktup h1 (RDs.cut ds _ h3 b')
  | .lst ds, _, h, b => by
    have b' : D.blws n ds = true := by simpa only [D.blw] using b
    cases h with
    | lst h1 h2 h3 => exact .lst h1 h2.cut (RDs.cut ds _ h3 b')
  | .fro ds, _, h, b => by
    have b' : D.blws n ds = true := by simpa only [D.blw] using b
    cases h with
    | fro h1 h2 h3 => exact .fro h1 h2.cut (RDs.cut ds _ h3 b')
    | kfro h1 h3 => exact .kfro h1 (RDs.cut ds _ h3 b')
  | .dic ks ds, _, h, b => by
    have b' : D.blws n ds = true := by simpa only [D.blw] using b
    cases h with
    | dic h1 h2 h4 h3 => exact .dic h1 h2.cut h4 (RDs.cut ds _ h3 b')
  | .loc m, _, h, b => by
    have b' : m < n := by simpa only [D.blw, decide_eq_true_eq] using b
    cases h with
    | loc h =>
      refine .loc ?_
      unfold bcut
      rw [if_pos b']
      exact h
  | .raw v, _, h, _ => by cases h; exact .raw v
theorem RDs.cut : ∀ (ds : List D) (vs : List V), RDs K β H ds vs → D.blws n ds = true → RDs K (bcut β n) H ds vs
  | [], _, h, _ => by cases h; exact .nil
  | d :: ds, _, h, b => by
    have b' : d.blw n = true ∧ D.blws n ds = true := by simpa only [D.blws, Bool.and_eq_true] using b
    cases h with | cons h1 h2 => exact .cons (RD.cut d _ h1 b'.1) (RDs.cut ds _ h2 b'.2)
end
theorem RO.cut {o : O} {u : HO} (h : RO K β H o u) (b : o.blw n = true) : RO K (bcut β n) H o u := by
  cases h with
  | lst h => exact .lst (RDs.cut _ _ h (by simpa only [O.blw] using b))
  | dic e h => exact .dic e (RDs.cut _ _ h (by simpa only [O.blw] using b))
  | ins e h => exact .ins e (RDs.cut _ _ h (by simpa only [O.blw] using b))
theorem RS.cut {S : Store} (h : RS K β H S) (b : (S.take n).all (O.blw n) = true) : RS K (bcut β n) H (S.take n) := by
  refine ⟨fun m a e => ?_, fun m o e => ?_, fun m k a e1 e2 => ?_⟩
  · unfold bcut at e
    split at e
    · rw [List.length_take]
      have := h.dom m a e
      omega
    · cases e
  · have hm : m < n := by
      have := (List.getElem?_eq_some_iff.mp e).1
      rw [List.length_take] at this
      omega
    have bo : o.blw n = true := List.all_eq_true.mp b o (List.mem_of_getElem? e)
    rw [List.getElem?_take_of_lt hm] at e
    obtain ⟨a, u, h1, h2, h3⟩ := h.obj m o e
    refine ⟨a, u, ?_, h2, h3.cut bo⟩
    unfold bcut
    rw [if_pos hm]
    exact h1
  · unfold bcut at e1 e2
    split at e1
    · split at e2
      · exact h.inj m k a e1 e2
      · cases e2
    · cases e1
theorem Step.cut (st : Step β H β' H') (hd : ∀ m a, β m = some a → m < n) : Step β H (bcut β' n) H' where
  keep := st.keep
  ext := fun m a e => by
    unfold bcut
    rw [if_pos (hd m a e)]
    exact st.ext m a e
  new := fun m a e => by
    unfold bcut at e
    split at e
    · exact st.new m a e
    · cases e
  live := st.live
/-- a place from n on, as a value -/
theorem RD.frz {S : Store} {m : Nat} (h : RS K β H S) (hm : n ≤ m) (e : S[m]? = some (.lst ds)) (r : RD K β H (.loc m) v) (b : D.blws n ds = true) : RD K (bcut β n) H (.lst ds) v := by
  cases r with
  | loc hl =>
    obtain ⟨a, u, h1, h2, h3⟩ := h.obj m _ e
    rw [hl] at h1; cases h1
    cases h3 with
    | lst h3 =>
      refine .lst h2 (fun i q => ?_) (RDs.cut _ _ h3 b)
      unfold bcut at q
      split at q
      · have := h.inj i m _ q hl
        omega
      · cases q
theorem RD.frzD {S : Store} {m : Nat} {ks : List Key} (h : RS K β H S) (hm : n ≤ m) (e : S[m]? = some (.dic ks ds)) (r : RD K β H (.loc m) v) (b : D.blws n ds = true) : RD K (bcut β n) H (.dic ks ds) v := by
  cases r with
  | loc hl =>
    obtain ⟨a, u, h1, h2, h3⟩ := h.obj m _ e
    rw [hl] at h1; cases h1
    cases h3 with
    | dic e h3 =>
      refine .dic h2 (fun i q => ?_) e (RDs.cut _ _ h3 b)
      unfold bcut at q
      split at q
      · have := h.inj i m _ q hl
        omega
      · cases q
end
/-- what is handed back: places from n on are forgotten, a list that is such a place is a value from here on -/
def closeV (n : Nat) (d : D) (S : Store) : Option (D × Store) :=
  if (S.take n).all (O.blw n) then
    match d with
    | .loc m => if m < n then some (.loc m, S.take n) else
      match S[m]? with
      | some (.lst ds) => if D.blws n ds then some (.lst ds, S.take n) else none
      | some (.dic ks ds) => if D.blws n ds then some (.dic ks ds, S.take n) else none
      | _ => none
    | d => if d.blw n then some (d, S.take n) else none
  else none
theorem closeV_ok {K : PySem.W.Frag} {β : Bt} {H : Hp} {d d' : D} {v : V} {n : Nat} {S S' : Store} (h : RS K β H S) (r : RD K β H d v) (e : closeV n d S = some (d', S')) :
    RS K (bcut β n) H S' ∧ RD K (bcut β n) H d' v := by
  unfold closeV at e
  split at e
  · rename_i hb
    have hs := h.cut hb
    split at e
    · rename_i m
      split at e
      · rename_i hm
        cases e
        exact ⟨hs, RD.cut _ _ r (by simpa only [D.blw, decide_eq_true_eq] using hm)⟩
      · rename_i hm
        split at e
        · rename_i ds hd
          split at e
          · rename_i hbd
            cases e
            exact ⟨hs, RD.frz h (by omega) hd r hbd⟩
          · cases e
        · rename_i ks ds hd
          split at e
          · rename_i hbd
            cases e
            exact ⟨hs, RD.frzD h (by omega) hd r hbd⟩
          · cases e
        · cases e
    · split at e
      · rename_i hbd
        cases e
        exact ⟨hs, RD.cut _ _ r hbd⟩
      · cases e
  · cases e
end Mir

set_option Elab.async false
set_option linter.all false
set_option maxRecDepth 100000
set_option autoImplicit false
set_option maxHeartbeats 1000000
/-! Mir2: what a piece of syntax is worth: expressions, tests, arguments, statements. -/
namespace Mir
open PySem L2

abbrev FE := Env → Store → Option (D × Store)
abbrev FT := Env → Store → Option (Bool × Store)
abbrev FA := Env → Store → Option (List D × Store)
inductive Rt where
  | nx (e : Env) | rt (d : D) | bk (e : Env) | ct (e : Env)
abbrev FS := Env → Store → Option (Rt × Store)
abbrev FF := List D → Store → Option (D × Store)
abbrev F2 := D → D → Store → Option (D × Store)
abbrev F1 := D → Store → Option (D × Store)
/-- a value and a store, handed on -/
def bnd {α β : Type} (x : Option (α × Store)) (k : α → Store → Option β) : Option β :=
  match x with
  | some (a, S) => k a S
  | none => none
theorem bnd_some {α β : Type} (a : α) (S : Store) (k : α → Store → Option β) : bnd (some (a, S)) k = k a S := rfl
theorem bnd_none {α β : Type} (k : α → Store → Option β) : bnd none k = none := rfl
theorem bnd_inv {α β : Type} {x : Option (α × Store)} {k : α → Store → Option β} {b : β} (h : bnd x k = some b) : ∃ a S, x = some (a, S) ∧ k a S = some b := by
  cases x with
  | none => cases h
  | some p => exact ⟨p.1, p.2, rfl, h⟩

/-! ### readings by what they are worth -/
section
variable (K : PySem.W.Frag)
def PostE (β : Bt) (H : Hp) (S' : Store) (d : D) (Q : VK) : Prop := ∀ v β' H', Step β H β' H' → RS K β' H' S' → RD K β' H' d v → Q v H'
def PostT (β : Bt) (H : Hp) (S' : Store) (b : Bool) (Q : Bool → Hp → Prop) : Prop := ∀ β' H', Step β H β' H' → RS K β' H' S' → Q b H'
def PostA (β : Bt) (H : Hp) (S' : Store) (ds : List D) (Q : List V → Hp → Prop) : Prop := ∀ vs β' H', Step β H β' H' → RS K β' H' S' → RDs K β' H' ds vs → Q vs H'
def PostN (β : Bt) (H : Hp) (S' : Store) (env : Env) (Q : L2.St → Hp → Prop) : Prop := ∀ σ' β' H', Step β H β' H' → RS K β' H' S' → RE K β' H' env σ' → Q σ' H'
def PostS (β : Bt) (H : Hp) (S' : Store) (r : Rt) (N : Ends) : Prop :=
  match r with
  | .nx e => PostN K β H S' e N.nx
  | .rt d => PostE K β H S' d N.rt
  | .bk e => PostN K β H S' e N.bk
  | .ct e => PostN K β H S' e N.ct
def RdE (t : TE) (f : FE) : Prop := ∀ (σ : L2.St) (β : Bt) (H : Hp) (env : Env) (S : Store) (d : D) (S' : Store) (Q : VK), RE K β H env σ → RS K β H S → f env S = some (d, S') → PostE K β H S' d Q → t σ H Q
def RdT (t : TT) (f : FT) : Prop := ∀ (σ : L2.St) (β : Bt) (H : Hp) (env : Env) (S : Store) (d : Bool) (S' : Store) (Q : Bool → Hp → Prop), RE K β H env σ → RS K β H S → f env S = some (d, S') → PostT K β H S' d Q → t σ H Q
def RdA (t : TA) (f : FA) : Prop := ∀ (σ : L2.St) (β : Bt) (H : Hp) (env : Env) (S : Store) (d : List D) (S' : Store) (Q : List V → Hp → Prop), RE K β H env σ → RS K β H S → f env S = some (d, S') → PostA K β H S' d Q → t σ H Q
def RdS (t : TS) (f : FS) : Prop := ∀ (σ : L2.St) (β : Bt) (H : Hp) (env : Env) (S : Store) (d : Rt) (S' : Store) (N : Ends), RE K β H env σ → RS K β H S → f env S = some (d, S') → PostS K β H S' d N → t N σ H
/-- operations by values -/
def Rd2 (r : R2) (o : F2) : Prop := ∀ (β : Bt) (H : Hp) (S : Store) (x y : D) (v u : V) (d : D) (S' : Store) (Q : VK), RS K β H S → RD K β H x v → RD K β H y u → o x y S = some (d, S') → PostE K β H S' d Q → r v u H Q
def Rd1 (r : V → Hp → VK → Prop) (o : F1) : Prop := ∀ (β : Bt) (H : Hp) (S : Store) (x : D) (v : V) (d : D) (S' : Store) (Q : VK), RS K β H S → RD K β H x v → o x S = some (d, S') → PostE K β H S' d Q → r v H Q
def RdN (r : List V → Hp → VK → Prop) (o : FF) : Prop := ∀ (β : Bt) (H : Hp) (S : Store) (xs : List D) (vs : List V) (d : D) (S' : Store) (Q : VK), RS K β H S → RDs K β H xs vs → o xs S = some (d, S') → PostE K β H S' d Q → r vs H Q
end
section
variable {K : PySem.W.Frag} {β β' : Bt} {H H' : Hp} {S S' : Store} {d : D} {b : Bool} {ds : List D}
theorem PostE.step {Q : VK} (st : Step β H β' H') (q : PostE K β H S' d Q) : PostE K β' H' S' d Q := fun v β2 H2 st2 rs rd => q v β2 H2 (st.trans st2) rs rd
theorem PostT.step {Q : Bool → Hp → Prop} (st : Step β H β' H') (q : PostT K β H S' b Q) : PostT K β' H' S' b Q := fun β2 H2 st2 rs => q β2 H2 (st.trans st2) rs
theorem PostA.step {Q : List V → Hp → Prop} (st : Step β H β' H') (q : PostA K β H S' ds Q) : PostA K β' H' S' ds Q := fun v β2 H2 st2 rs rd => q v β2 H2 (st.trans st2) rs rd
theorem PostN.step {e : Env} {Q : L2.St → Hp → Prop} (st : Step β H β' H') (q : PostN K β H S' e Q) : PostN K β' H' S' e Q := fun v β2 H2 st2 rs rd => q v β2 H2 (st.trans st2) rs rd
theorem PostS.step {r : Rt} {N : Ends} (st : Step β H β' H') (q : PostS K β H S' r N) : PostS K β' H' S' r N := by
  cases r with
  | nx e => exact PostN.step st q
  | rt d => exact PostE.step st q
  | bk e => exact PostN.step st q
  | ct e => exact PostN.step st q
/-- the end where nothing but the value comes -/
theorem PostE.now {Q : VK} {v : V} (q : PostE K β H S' d Q) (rs : RS K β H S') (rd : RD K β H d v) : Q v H := q v β H .refl rs rd
theorem PostE.newT {Q : VK} {vs : List V} (q : PostE K β H S' (.tup ds) Q) (rs : RS K β H S') (r : RDs K β H ds vs) : ∀ p, H p = none → Q (.ref p) (upd H p (.tup vs)) := fun p hp =>
  q _ β _ (.laid hp) (rs.laid hp) (RD.newT rs hp r)
theorem PostE.newL {Q : VK} {vs : List V} (q : PostE K β H S' (.lst ds) Q) (rs : RS K β H S') (r : RDs K β H ds vs) : ∀ p, H p = none → Q (.ref p) (upd H p (.lst vs)) := fun p hp =>
  q _ β _ (.laid hp) (rs.laid hp) (RD.newL rs hp r)
theorem PostE.placeL {Q : VK} {vs : List V} (q : PostE K β H (S ++ [.lst ds]) (.loc S.length) Q) (rs : RS K β H S) (r : RDs K β H ds vs) : ∀ p, H p = none → Q (.ref p) (upd H p (.lst vs)) := fun p hp =>
  q _ _ _ (.place rs hp) (rs.place hp (.lst r)) (.loc (by unfold bset; rw [if_pos rfl]))
end

/-! ### syntax -/
def GoE (X : Cx) (e : Expr) : TE := fun σ H Q => ∀ pins s, Inv X pins σ H s → wpAny (model X.prog X.w) X.A (eval e X.env) (EP X pins σ Q) X.xe s
def GoT (X : Cx) (e : Expr) : TT := fun σ H Q => ∀ pins s, Inv X pins σ H s → wpAny (model X.prog X.w) X.A (isTrue e X.env (eval e X.env)) (TP X pins σ Q) X.xe s
def GoA (X : Cx) (es : List Expr) : TA := fun σ H Q => ∀ pos pins s, Inv X pins σ H s → wpAny (model X.prog X.w) X.A (spliced (backTo pos (starEach es X.env))) (AP X pins σ Q) X.xe s
def GoS (X : Cx) (st : Stmt) : TS := fun N σ H => ∀ pins s, Inv X pins σ H s → wpAny (model X.prog X.w) X.A (exec st X.env) (SP X pins N) X.xe s
def GoSs (X : Cx) (st : List Stmt) : TS := fun N σ H => ∀ pins s, Inv X pins σ H s → wpAny (model X.prog X.w) X.A (execs st X.env) (SP X pins N) X.xe s
structure DE (X : Cx) (e : Expr) (f : FE) : Prop where
  run : RdE X.K (GoE X e) f
structure DT (X : Cx) (e : Expr) (f : FT) : Prop where
  run : RdT X.K (GoT X e) f
structure DA (X : Cx) (es : List Expr) (f : FA) : Prop where
  run : RdA X.K (GoA X es) f
structure DS (X : Cx) (st : Stmt) (f : FS) : Prop where
  run : RdS X.K (GoS X st) f
structure DSs (X : Cx) (st : List Stmt) (f : FS) : Prop where
  run : RdS X.K (GoSs X st) f
section
variable {X : Cx} {e : Expr} {es : List Expr} {st : Stmt} {sts : List Stmt}
theorem goE : PE X e (GoE X e) := ⟨fun pins s _ _ _ I h => h pins s I⟩
theorem goT : PT X e (GoT X e) := ⟨fun pins s _ _ _ I h => h pins s I⟩
theorem goA : PA X es (GoA X es) := ⟨fun pos pins s _ _ _ I h => h pos pins s I⟩
theorem goS : PS X st (GoS X st) := ⟨fun pins s _ _ _ I h => h pins s I⟩
theorem goSs : PSs X sts (GoSs X sts) := ⟨fun pins s _ _ _ I h => h pins s I⟩
theorem de_of {t : TE} {f : FE} (h : PE X e t) (r : RdE X.K t f) : DE X e f := ⟨fun σ β H env S d S' Q re rs hf q pins s I => h.run pins s σ H Q I (r σ β H env S d S' Q re rs hf q)⟩
theorem dt_of {t : TT} {f : FT} (h : PT X e t) (r : RdT X.K t f) : DT X e f := ⟨fun σ β H env S d S' Q re rs hf q pins s I => h.run pins s σ H Q I (r σ β H env S d S' Q re rs hf q)⟩
theorem da_of {t : TA} {f : FA} (h : PA X es t) (r : RdA X.K t f) : DA X es f := ⟨fun σ β H env S d S' Q re rs hf q pos pins s I => h.run pos pins s σ H Q I (r σ β H env S d S' Q re rs hf q)⟩
theorem ds_of {t : TS} {f : FS} (h : PS X st t) (r : RdS X.K t f) : DS X st f := ⟨fun σ β H env S d S' N re rs hf q pins s I => h.run pins s σ H N I (r σ β H env S d S' N re rs hf q)⟩
theorem dss_of {t : TS} {f : FS} (h : PSs X sts t) (r : RdS X.K t f) : DSs X sts f := ⟨fun σ β H env S d S' N re rs hf q pins s I => h.run pins s σ H N I (r σ β H env S d S' N re rs hf q)⟩
theorem DSs.pss {f : FS} (h : DSs X sts f) : ∃ t, PSs X sts t ∧ RdS X.K t f := ⟨_, goSs, h.run⟩
end

/-! ### names and constants -/
def fVar (i : Nat) : FE := fun env S => match env[i]? with
  | some (some d) => some (d, S)
  | _ => none
def fC (d : D) : FE := fun _ S => some (d, S)
section
variable {X : Cx} {pos : Pos}
theorem rd_var {K : PySem.W.Frag} {i : Nat} : RdE K (tVar i) (fVar i) := by
  intro σ β H env S d S' Q re rs hf q
  unfold fVar at hf
  split at hf
  · rename_i d' hd
    cases hf
    obtain ⟨v, e, r⟩ := re.get i _ hd
    exact ⟨v, e, q.now rs r⟩
  · cases hf
theorem de_var {i : Nat} {x : Str} (hN : X.N[i]? = some x := by rfl) (hv : Vis X.env.scope x := by first | exact Or.inl rfl | exact Or.inr (Or.inl rfl) | exact Or.inr (Or.inr rfl)) (hd : (x == ("__debug__" : Str)) = false := by decide)
    (hcd : (x == ("__classdict__" : Str)) = false := by decide) : DE X (.Name x pos) (fVar i) := de_of (pe_var hN hv hd hcd) rd_var
theorem rd_c {K : PySem.W.Frag} {v : V} {d : D} (h : ∀ β H, RD K β H d v) : RdE K (tC v) (fC d) := by
  intro σ β H env S d' S' Q re rs hf q
  cases hf
  exact q.now rs (h _ _)
theorem de_int {i : Int} {j : Nat} : DE X (.Constant (.int i) j pos) (fC (.int i)) := de_of pe_int (rd_c fun _ _ => .int i)
theorem de_bl {b : Bool} {j : Nat} : DE X (.Constant (.bool b) j pos) (fC (.bl b)) := de_of pe_bl (rd_c fun _ _ => .bl b)
theorem de_non {j : Nat} : DE X (.Constant .none j pos) (fC .non) := de_of pe_non (rd_c fun _ _ => .non)
theorem de_str {x : Str} {j : Nat} : DE X (.Constant (.str x) j pos) (fC (.str x)) := de_of pe_str (rd_c fun _ _ => .str x)
/-- a module's constant -/
theorem de_glob {x : Str} {v : V} {d : D} {u : Value} (hm : X.mg x = some u) (r : RelV v u) (h : ∀ β H, RD X.K β H d v) (hg : Gl X x := by rfl) (hd : (x == ("__debug__" : Str)) = false := by decide) : DE X (.Name x pos) (fC d) :=
  de_of (pe_glob hg hm r hd) (rd_c h)
theorem de_bltn {x : Str} {v : V} {u : Value} (hm : X.mg x = none) (hv : bootBuiltins x = some u) (r : RelV v u) (hg : Gl X x := by rfl) (hn : x ≠ "__name__" := by decide) (hd : (x == ("__debug__" : Str)) = false := by decide) : DE X (.Name x pos) (fC (.raw v)) :=
  de_of (pe_bltn hg hm hv r hn hd) (rd_c fun _ _ => .raw v)
end

/-! ### operators -/
def fOp (o : F2) (fa fb : FE) : FE := fun env S => bnd (fa env S) fun x S1 => bnd (fb env S1) fun y S2 => o x y S2
def fUn (o : F1) (fa : FE) : FE := fun env S => bnd (fa env S) fun x S1 => o x S1
section
variable {X : Cx} {K : PySem.W.Frag} {pos : Pos} {a b c : Expr} {fa fb fc : FE} {ta tb tc : TE} {r r' : R2} {o o' : F2}
theorem rd_op (hr : Rd2 K r o) (ha : RdE K ta fa) (hb : RdE K tb fb) : RdE K (tOp r ta tb) (fOp o fa fb) := by
  intro σ β H env S d S' Q re rs hf q
  obtain ⟨x, S1, e1, hf⟩ := bnd_inv hf
  obtain ⟨y, S2, e2, hf⟩ := bnd_inv hf
  refine ha σ β H env S x S1 _ re rs e1 fun v β1 H1 st1 rs1 r1 => ?_
  refine hb σ β1 H1 env S1 y S2 _ (re.step st1) rs1 e2 fun u β2 H2 st2 rs2 r2 => ?_
  exact hr β2 H2 S2 x y v u d S' Q rs2 (RD.step st2 _ _ r1) r2 hf ((q.step st1).step st2)
theorem rd_un {r : V → Hp → VK → Prop} {o : F1} (hr : Rd1 K r o) (ha : RdE K ta fa) : RdE K (tUn r ta) (fUn o fa) := by
  intro σ β H env S d S' Q re rs hf q
  obtain ⟨x, S1, e1, hf⟩ := bnd_inv hf
  refine ha σ β H env S x S1 _ re rs e1 fun v β1 H1 st1 rs1 r1 => ?_
  exact hr β1 H1 S1 x v d S' Q rs1 r1 hf (q.step st1)
theorem de_op {op : Operator} (ho : OpR X (binaryOp op) r) (hr : Rd2 X.K r o) (ha : DE X a fa) (hb : DE X b fb) : DE X (.BinOp a op b pos) (fOp o fa fb) := de_of (pe_op ho goE goE) (rd_op hr ha.run hb.run)
theorem de_un {op : UnaryOp} {r : V → Hp → VK → Prop} {o : F1} (ho : UnR X (unaryOp op) r) (hr : Rd1 X.K r o) (ha : DE X a fa) : DE X (.UnaryOp op a pos) (fUn o fa) := de_of (pe_un ho goE) (rd_un hr ha.run)
theorem de_cmp {op : CmpOp} (ho : OpR X (compareOp op) r) (hr : Rd2 X.K r o) (ha : DE X a fa) (hb : DE X b fb) (hm : behindInMarks op b = false := by first | exact nomark _ | rfl) : DE X (.Compare a [op] [b] pos) (fOp o fa fb) := de_of (pe_cmpR ho goE goE hm) (rd_op hr ha.run hb.run)
theorem Rd2.or (h : Rd2 K r o) (h' : Rd2 K r' o') : Rd2 K (fun x y H Q => r x y H Q ∨ r' x y H Q) (fun x y S => (o x y S).or (o' x y S)) := by
  intro β H S x y v u d S' Q rs r1 r2 hf q
  have hf : (o x y S).or (o' x y S) = some (d, S') := hf
  cases e : o x y S with
  | some p =>
    rw [e] at hf
    exact .inl (h β H S x y v u d S' Q rs r1 r2 (by rw [e]; exact hf) q)
  | none =>
    rw [e] at hf
    exact .inr (h' β H S x y v u d S' Q rs r1 r2 hf q)

/-! ### tests -/
def asB (x : Option (D × Store)) : Option (Bool × Store) := match x with
  | some (.bl b, S) => some (b, S)
  | _ => none
theorem asB_inv {x : Option (D × Store)} {b : Bool} {S : Store} (h : asB x = some (b, S)) : x = some (.bl b, S) := by
  unfold asB at h
  split at h
  · cases h; rfl
  · cases h
def fB (f : FE) : FT := fun env S => asB (f env S)
theorem rd_B {f : FE} {t : TE} (h : RdE K t f) : RdT K (tB t) (fB f) := by
  intro σ β H env S d S' Q re rs hf q
  refine h σ β H env S (.bl d) S' _ re rs (asB_inv hf) fun v β1 H1 st1 rs1 r1 => ?_
  cases r1
  exact ⟨d, rfl, q β1 H1 st1 rs1⟩
theorem rd_test {f : FE} {t : TE} (h : RdE K t f) : RdT K (tTest t) (fB f) := by
  intro σ β H env S d S' Q re rs hf q
  refine h σ β H env S (.bl d) S' _ re rs (asB_inv hf) fun v β1 H1 st1 rs1 r1 => ?_
  cases r1
  exact ⟨d, rfl, q β1 H1 st1 rs1⟩
theorem dt_cmp {op : CmpOp} (ho : OpR X (compareOp op) r) (hr : Rd2 X.K r o) (ha : DE X a fa) (hb : DE X b fb) (hm : behindInMarks op b = false := by first | exact nomark _ | rfl) : DT X (.Compare a [op] [b] pos) (fB (fOp o fa fb)) :=
  dt_of (pt_cmpR ho goE goE hm) (rd_test (rd_op hr ha.run hb.run))
theorem dt_val {f : FE} (h : DE X a f) (he : ∀ whole, isTrue a X.env whole = (do let v ← whole; standAt a.pos; holding [v] (truthy v)) := by intro _; rfl) : DT X a (fB f) := dt_of (pt_val goE he) (rd_B h.run)
/-- a value's truth -/
def truD (S : Store) : D → Option Bool
  | .non => some false
  | .bl b => some b
  | .int i => some (i != 0)
  | .str y => if y.length ≤ sizeLine then some ((y.length : Int) != 0) else none
  | .tup ds => some (!ds.isEmpty)
  | .lst ds => some (!ds.isEmpty)
  | .fro ds => some (!ds.isEmpty)
  | .loc n => match S[n]? with
    | some (.lst ds) => some (!ds.isEmpty)
    | some (.dic _ ds) => some (!ds.isEmpty)
    | _ => none
  | _ => none
def fTr (f : FE) : FT := fun env S => bnd (f env S) fun d S1 => (truD S1 d).map fun b => (b, S1)
theorem RDs.isEmpty {β : Bt} {H : Hp} {ds : List D} {vs : List V} (h : RDs K β H ds vs) : ds.isEmpty = vs.isEmpty := by
  cases h <;> rfl
theorem rd_tr {t : TE} {f : FE} (h : RdE K t f) : RdT K (fun σ H Q => t σ H fun x H' => ∃ k, TruV K x H' k ∧ Q k H') (fTr f) := by
  intro σ β H env S b S' Q re rs hf q
  obtain ⟨x, S1, e1, hf⟩ := bnd_inv hf
  refine h σ β H env S x S1 _ re rs e1 fun v β1 H1 st1 rs1 r1 => ?_
  cases e : truD S1 x with
  | none => rw [e] at hf; cases hf
  | some k =>
    rw [e] at hf
    cases hf
    clear e1
    refine ⟨b, ?_, q β1 H1 st1 rs1⟩
    cases r1 with
    | non => cases e; rfl
    | bl k => cases e; rfl
    | int i => cases e; rfl
    | str y =>
      have e : (if y.length ≤ sizeLine then some ((y.length : Int) != 0) else none) = some b := e
      split at e
      · rename_i hl
        cases e
        exact ⟨hl, rfl⟩
      · cases e
    | tup h1 h2 h3 =>
      cases e
      exact .inr (.inl ⟨_, .inl h1, by rw [h3.isEmpty]⟩)
    | ktup h1 h3 =>
      cases e
      exact .inr (.inl ⟨_, .inr h1, by rw [h3.isEmpty]⟩)
    | lst h1 h2 h3 =>
      cases e
      exact .inl ⟨_, .inl (.inl h1), by rw [h3.isEmpty]⟩
    | fro h1 h2 h3 =>
      cases e
      exact .inl ⟨_, .inl h1, by rw [h3.isEmpty]⟩
    | kfro h1 h3 =>
      cases e
      exact .inl ⟨_, .inr h1, by rw [h3.isEmpty]⟩
    | dic => cases e
    | raw => cases e
    | loc hl =>
      obtain ⟨o, u, g1, g2, g3⟩ := rs1.ne hl
      unfold truD at e
      simp only [g1] at e
      cases g3 with
      | lst h3 =>
        cases e
        exact .inl ⟨_, .inl (.inl g2), by rw [h3.isEmpty]⟩
      | dic h4 h3 =>
        cases e
        refine .inr (.inr ⟨_, g2, ?_⟩)
        rw [h3.isEmpty]
        simp
      | ins => cases e
theorem dt_truth {f : FE} (h : DE X a f) (he : ∀ whole, isTrue a X.env whole = (do let v ← whole; standAt a.pos; holding [v] (truthy v)) := by intro _; rfl) : DT X a (fTr f) := dt_of (pt_truth goE he) (rd_tr h.run)
def fAnd (f g : FT) : FT := fun env S => bnd (f env S) fun c S1 => if c then g env S1 else some (false, S1)
def fOr (f g : FT) : FT := fun env S => bnd (f env S) fun c S1 => if c then some (true, S1) else g env S1
def fNot (f : FT) : FT := fun env S => bnd (f env S) fun c S1 => some (!c, S1)
variable {f g : FT} {t u : TT} {rest : List Expr}
theorem rd_and (h1 : RdT K t f) (h2 : RdT K u g) : RdT K (tAnd t u) (fAnd f g) := by
  intro σ β H env S b S' Q re rs hf q
  obtain ⟨c, S1, e1, hf⟩ := bnd_inv hf
  refine h1 σ β H env S c S1 _ re rs e1 fun β1 H1 st1 rs1 => ?_
  cases c with
  | true =>
    show u σ H1 Q
    exact h2 σ β1 H1 env S1 b S' Q (re.step st1) rs1 hf (q.step st1)
  | false =>
    cases hf
    exact q β1 H1 st1 rs1
theorem rd_or (h1 : RdT K t f) (h2 : RdT K u g) : RdT K (tOr t u) (fOr f g) := by
  intro σ β H env S b S' Q re rs hf q
  obtain ⟨c, S1, e1, hf⟩ := bnd_inv hf
  refine h1 σ β H env S c S1 _ re rs e1 fun β1 H1 st1 rs1 => ?_
  cases c with
  | false =>
    show u σ H1 Q
    exact h2 σ β1 H1 env S1 b S' Q (re.step st1) rs1 hf (q.step st1)
  | true =>
    cases hf
    exact q β1 H1 st1 rs1
theorem rd_not (h1 : RdT K t f) : RdT K (tNot t) (fNot f) := by
  intro σ β H env S b S' Q re rs hf q
  obtain ⟨c, S1, e1, hf⟩ := bnd_inv hf
  refine h1 σ β H env S c S1 _ re rs e1 fun β1 H1 st1 rs1 => ?_
  cases hf
  exact q β1 H1 st1 rs1
/-- a chain of and, or -/
def DW (X : Cx) (e : Expr) (f : FT) : Prop := ∃ t, PW X e t ∧ RdT X.K t f
theorem dw_and1 (h : DT X a f) : DW X (.BoolOp .And [a] pos) f := ⟨_, pw_and1 goT, h.run⟩
theorem dw_or1 (h : DT X a f) : DW X (.BoolOp .Or [a] pos) f := ⟨_, pw_or1 goT, h.run⟩
theorem dw_and (h : DT X a f) (h2 : DW X (.BoolOp .And (b :: rest) pos) g) : DW X (.BoolOp .And (a :: b :: rest) pos) (fAnd f g) := by
  obtain ⟨t, p, r⟩ := h2
  exact ⟨_, pw_and goT p, rd_and h.run r⟩
theorem dw_or (h : DT X a f) (h2 : DW X (.BoolOp .Or (b :: rest) pos) g) : DW X (.BoolOp .Or (a :: b :: rest) pos) (fOr f g) := by
  obtain ⟨t, p, r⟩ := h2
  exact ⟨_, pw_or goT p, rd_or h.run r⟩
theorem dt_w (h : DW X a f) : DT X a f := by
  obtain ⟨t, p, r⟩ := h
  exact dt_of p.pt r
theorem dt_not (h : DT X a f) : DT X (.UnaryOp .Not a pos) (fNot f) := dt_of (pt_not goT) (rd_not h.run)

/-! ### and, or, not, if as values -/
def fAndV (f g : FE) : FE := fun env S => bnd (asB (f env S)) fun c S1 => if c then g env S1 else some (.bl false, S1)
def fOrV (f g : FE) : FE := fun env S => bnd (asB (f env S)) fun c S1 => if c then some (.bl true, S1) else g env S1
def fNotV (f : FE) : FE := fun env S => bnd (asB (f env S)) fun c S1 => some (.bl (!c), S1)
def fIf (c : FT) (f g : FE) : FE := fun env S => bnd (c env S) fun c S1 => if c then f env S1 else g env S1
theorem rd_andV (h1 : RdE K ta fa) (h2 : RdE K tb fb) : RdE K (tAndV ta tb) (fAndV fa fb) := by
  intro σ β H env S d S' Q re rs hf q
  obtain ⟨c, S1, e1, hf⟩ := bnd_inv hf
  refine h1 σ β H env S (.bl c) S1 _ re rs (asB_inv e1) fun v β1 H1 st1 rs1 r1 => ?_
  cases r1
  refine ⟨c, rfl, ?_⟩
  cases c with
  | true => exact h2 σ β1 H1 env S1 d S' Q (re.step st1) rs1 hf (q.step st1)
  | false =>
    cases hf
    exact q _ β1 H1 st1 rs1 (.bl false)
theorem rd_orV (h1 : RdE K ta fa) (h2 : RdE K tb fb) : RdE K (tOrV ta tb) (fOrV fa fb) := by
  intro σ β H env S d S' Q re rs hf q
  obtain ⟨c, S1, e1, hf⟩ := bnd_inv hf
  refine h1 σ β H env S (.bl c) S1 _ re rs (asB_inv e1) fun v β1 H1 st1 rs1 r1 => ?_
  cases r1
  refine ⟨c, rfl, ?_⟩
  cases c with
  | false => exact h2 σ β1 H1 env S1 d S' Q (re.step st1) rs1 hf (q.step st1)
  | true =>
    cases hf
    exact q _ β1 H1 st1 rs1 (.bl true)
theorem de_one {op : BoolOp} (h : DE X a fa) : DE X (.BoolOp op [a] pos) fa := de_of (pe_one goE) h.run
theorem de_and (h1 : DE X a fa) (h2 : DE X (.BoolOp .And (b :: rest) pos) fb) : DE X (.BoolOp .And (a :: b :: rest) pos) (fAndV fa fb) := de_of (pe_and goE goE) (rd_andV h1.run h2.run)
theorem de_or (h1 : DE X a fa) (h2 : DE X (.BoolOp .Or (b :: rest) pos) fb) : DE X (.BoolOp .Or (a :: b :: rest) pos) (fOrV fa fb) := de_of (pe_or goE goE) (rd_orV h1.run h2.run)
theorem de_not (h1 : DE X a fa) : DE X (.UnaryOp .Not a pos) (fNotV fa) := de_of (pe_not goE) (by
  intro σ β H env S d S' Q re rs hf q
  obtain ⟨c, S1, e1, hf⟩ := bnd_inv hf
  refine h1.run σ β H env S (.bl c) S1 _ re rs (asB_inv e1) fun v β1 H1 st1 rs1 r1 => ?_
  cases r1
  cases hf
  exact ⟨c, rfl, q _ β1 H1 st1 rs1 (.bl _)⟩)
theorem de_if (hc : DT X c f) (h1 : DE X a fa) (h2 : DE X b fb) : DE X (.IfExp c a b pos) (fIf f fa fb) := de_of (pe_ifExp goT goE goE) (by
  intro σ β H env S d S' Q re rs hf q
  obtain ⟨k, S1, e1, hf⟩ := bnd_inv hf
  refine hc.run σ β H env S k S1 _ re rs e1 fun β1 H1 st1 rs1 => ?_
  cases k with
  | true => exact h1.run σ β1 H1 env S1 d S' Q (re.step st1) rs1 hf (q.step st1)
  | false => exact h2.run σ β1 H1 env S1 d S' Q (re.step st1) rs1 hf (q.step st1))
/-- a < b < c -/
def fChain (o o' : F2) (fa fb fc : FE) : FE := fun env S => bnd (fa env S) fun x S1 => bnd (fb env S1) fun y S2 => bnd (asB (o x y S2)) fun k S3 => if k then bnd (fc env S3) fun z S4 => o' y z S4 else some (.bl false, S3)
theorem rd_chain (hr : Rd2 K r o) (hr' : Rd2 K r' o') (ha : RdE K ta fa) (hb : RdE K tb fb) (hc : RdE K tc fc) : RdE K (tChain r r' ta tb tc) (fChain o o' fa fb fc) := by
  intro σ β H env S d S' Q re rs hf q
  obtain ⟨x, S1, e1, hf⟩ := bnd_inv hf
  obtain ⟨y, S2, e2, hf⟩ := bnd_inv hf
  obtain ⟨k, S3, e3, hf⟩ := bnd_inv hf
  refine ha σ β H env S x S1 _ re rs e1 fun v β1 H1 st1 rs1 r1 => ?_
  refine hb σ β1 H1 env S1 y S2 _ (re.step st1) rs1 e2 fun u β2 H2 st2 rs2 r2 => ?_
  refine hr β2 H2 S2 x y v u (.bl k) S3 _ rs2 (RD.step st2 _ _ r1) r2 (asB_inv e3) fun w β3 H3 st3 rs3 r3 => ?_
  cases r3
  refine ⟨k, rfl, ?_⟩
  cases k with
  | true =>
    obtain ⟨z, S4, e4, hf⟩ := bnd_inv hf
    refine hc σ β3 H3 env S3 z S4 _ (((re.step st1).step st2).step st3) rs3 e4 fun w' β4 H4 st4 rs4 r4 => ?_
    exact hr' β4 H4 S4 y z u w' d S' Q rs4 (RD.step st4 _ _ (RD.step st3 _ _ r2)) r4 hf ((((q.step st1).step st2).step st3).step st4)
  | false =>
    cases hf
    exact q _ β3 H3 ((st1.trans st2).trans st3) rs3 (.bl false)
theorem de_chain {op op' : CmpOp} (ho : OpR X (compareOp op) r) (ho' : OpR X (compareOp op') r') (hr : Rd2 X.K r o) (hr' : Rd2 X.K r' o') (ha : DE X a fa) (hb : DE X b fb) (hc : DE X c fc)
    (hm : lastMarks [op, op'] [b, c] = false := by with_unfolding_all rfl) : DE X (.Compare a [op, op'] [b, c] pos) (fChain o o' fa fb fc) := de_of (pe_chain ho ho' goE goE goE hm) (rd_chain hr hr' ha.run hb.run hc.run)
theorem dt_chain {op op' : CmpOp} (ho : OpR X (compareOp op) r) (ho' : OpR X (compareOp op') r') (hr : Rd2 X.K r o) (hr' : Rd2 X.K r' o') (ha : DE X a fa) (hb : DE X b fb) (hc : DE X c fc)
    (hm : lastMarks [op, op'] [b, c] = false := by with_unfolding_all rfl) : DT X (.Compare a [op, op'] [b, c] pos) (fB (fChain o o' fa fb fc)) := dt_of (pt_chain ho ho' goE goE goE hm) (rd_test (rd_chain hr hr' ha.run hb.run hc.run))
end

/-! ### which arguments are starred -/
def isStar : Expr → Bool
  | .Starred _ _ => true
  | _ => false
def noStars : List Expr → Bool
  | [] => true
  | e :: es => !isStar e && noStars es
theorem st_cons {e : Expr} {es : List Expr} {env : PySem.Env} (h : isStar e = false) : starEach (e :: es) env = (false, eval e env) :: starEach es env := by
  cases e <;> first
    | rfl
    | cases h
theorem st_one {e : Expr} {env : PySem.Env} (h : isStar e = false) : starEach [e] env = [(false, eval e env)] := st_cons h
theorem st_plain {pos : Pos} {env : PySem.Env} : ∀ {es : List Expr}, noStars es = true → (backTo pos (starEach es env)).any (·.1) = false
  | [], _ => rfl
  | e :: es, h => by
    have h' : (!isStar e && noStars es) = true := h
    simp only [Bool.and_eq_true, Bool.not_eq_true'] at h'
    rw [st_cons h'.1]
    show (false || (backTo pos (starEach es env)).any (·.1)) = false
    rw [st_plain h'.2]
    rfl
/-! ### arguments, displays -/
def fNil : FA := fun _ S => some ([], S)
def fCons (f : FE) (g : FA) : FA := fun env S => bnd (f env S) fun x S1 => bnd (g env S1) fun xs S2 => some (x :: xs, S2)
def fTup (g : FA) : FE := fun env S => bnd (g env S) fun xs S1 => if xs.length ≤ sizeLine then some (.tup xs, S1) else none
def fLst (g : FA) : FE := fun env S => bnd (g env S) fun xs S1 => if xs.length ≤ sizeLine then some (.lst xs, S1) else none
/-- a list that will be changed: a new place -/
def fLstM (g : FA) : FE := fun env S => bnd (g env S) fun xs S1 => if xs.length ≤ sizeLine then some (.loc S1.length, S1 ++ [.lst xs]) else none
section
variable {X : Cx} {K : PySem.W.Frag} {pos : Pos} {e : Expr} {es : List Expr} {f : FE} {g : FA} {t : TE} {u : TA}
theorem rd_nil : RdA K tNil fNil := by
  intro σ β H env S d S' Q re rs hf q
  cases hf
  exact q [] β H .refl rs .nil
theorem rd_cons (h1 : RdE K t f) (h2 : RdA K u g) : RdA K (tCons t u) (fCons f g) := by
  intro σ β H env S d S' Q re rs hf q
  obtain ⟨x, S1, e1, hf⟩ := bnd_inv hf
  obtain ⟨xs, S2, e2, hf⟩ := bnd_inv hf
  cases hf
  refine h1 σ β H env S x S1 _ re rs e1 fun v β1 H1 st1 rs1 r1 => ?_
  refine h2 σ β1 H1 env S1 xs S' _ (re.step st1) rs1 e2 fun vs β2 H2 st2 rs2 r2 => ?_
  exact q (v :: vs) β2 H2 (st1.trans st2) rs2 (.cons (RD.step st2 _ _ r1) r2)
theorem da_nil : DA X [] fNil := da_of pa_nil rd_nil
theorem da_consS (h1 : DE X e f) (h2 : DA X es g) (hs : starEach (e :: es) X.env = (false, eval e X.env) :: starEach es X.env := by rfl) : DA X (e :: es) (fCons f g) := da_of (pa_cons goE goA hs) (rd_cons h1.run h2.run)
theorem da_cons (h1 : DE X e f) (h2 : DA X es g) (hs : isStar e = false := by rfl) : DA X (e :: es) (fCons f g) := da_consS h1 h2 (st_cons hs)
theorem rd_tup (h : RdA K u g) : RdE K (tTup u) (fTup g) := by
  intro σ β H env S d S' Q re rs hf q
  obtain ⟨xs, S1, e1, hf⟩ := bnd_inv hf
  split at hf
  · rename_i hl
    cases hf
    refine h σ β H env S xs S' _ re rs e1 fun vs β1 H1 st1 rs1 r1 => ?_
    exact ⟨by rw [← r1.length]; exact hl, (q.step st1).newT rs1 r1⟩
  · cases hf
theorem rd_lst (h : RdA K u g) : RdE K (tLst u) (fLst g) := by
  intro σ β H env S d S' Q re rs hf q
  obtain ⟨xs, S1, e1, hf⟩ := bnd_inv hf
  split at hf
  · rename_i hl
    cases hf
    refine h σ β H env S xs S' _ re rs e1 fun vs β1 H1 st1 rs1 r1 => ?_
    exact ⟨by rw [← r1.length]; exact hl, (q.step st1).newL rs1 r1⟩
  · cases hf
theorem rd_lstM (h : RdA K u g) : RdE K (tLst u) (fLstM g) := by
  intro σ β H env S d S' Q re rs hf q
  obtain ⟨xs, S1, e1, hf⟩ := bnd_inv hf
  split at hf
  · rename_i hl
    cases hf
    refine h σ β H env S xs S1 _ re rs e1 fun vs β1 H1 st1 rs1 r1 => ?_
    exact ⟨by rw [← r1.length]; exact hl, (q.step st1).placeL rs1 r1⟩
  · cases hf
theorem de_tup {k : Nat} (h : DA X es g) : DE X (.Tuple es k pos) (fTup g) := de_of (pe_tup goA) (rd_tup h.run)
theorem de_lst (h : DA X es g) : DE X (.List es pos) (fLst g) := de_of (pe_lst goA) (rd_lst h.run)
theorem de_lstM (h : DA X es g) : DE X (.List es pos) (fLstM g) := de_of (pe_lst goA) (rd_lstM h.run)
end

/-! ### statements -/
def sNil : FS := fun env S => some (.nx env, S)
def sCons (f g : FS) : FS := fun env S => bnd (f env S) fun r S1 => match r with
  | .nx e => g e S1
  | r => some (r, S1)
def sRet (f : FE) : FS := fun env S => bnd (f env S) fun d S1 => some (.rt d, S1)
def sRetN : FS := fun _ S => some (.rt .non, S)
def sDrop (f : FE) : FS := fun env S => bnd (f env S) fun _ S1 => some (.nx env, S1)
def sIf (c : FT) (f g : FS) : FS := fun env S => bnd (c env S) fun b S1 => if b then f env S1 else g env S1
def sSet (i : Nat) (f : FE) : FS := fun env S => bnd (f env S) fun d S1 => some (.nx (env.set i (some d)), S1)
def sBreak : FS := fun env S => some (.bk env, S)
def sCont : FS := fun env S => some (.ct env, S)
section
variable {X : Cx} {K : PySem.W.Frag} {pos : Pos} {e : Expr} {st : Stmt} {sts : List Stmt} {f g : FS} {t u : TS} {fe : FE} {te : TE}
theorem rd_next : RdS K tNext sNil := by
  intro σ β H env S d S' N re rs hf q
  cases hf
  exact q σ β H .refl rs re
theorem rd_seq (h1 : RdS K t f) (h2 : RdS K u g) : RdS K (tSeq t u) (sCons f g) := by
  intro σ β H env S d S' N re rs hf q
  obtain ⟨r, S1, e1, hf⟩ := bnd_inv hf
  refine h1 σ β H env S r S1 _ re rs e1 ?_
  cases r with
  | nx e' => exact fun σ1 β1 H1 st1 rs1 re1 => h2 σ1 β1 H1 e' S1 d S' N re1 rs1 hf (q.step st1)
  | rt x => cases hf; exact q
  | bk e' => cases hf; exact q
  | ct e' => cases hf; exact q
theorem dss_nil : DSs X [] sNil := dss_of pss_nil rd_next
theorem dss_cons (h1 : DS X st f) (h2 : DSs X sts g) : DSs X (st :: sts) (sCons f g) := dss_of (pss_cons goS goSs) (rd_seq h1.run h2.run)
theorem dss_one (h1 : DS X st f) : DSs X [st] f := dss_of (pss_one goS) h1.run
theorem ds_pass : DS X (.Pass pos) sNil := ds_of ps_pass rd_next
theorem ds_doc {x : Str} {j : Nat} {pos' : Pos} : DS X (.Expr (.Constant (.str x) j pos) pos') sNil := ds_of ps_doc rd_next
theorem ds_ret (h : DE X e fe) : DS X (.Return (some e) pos) (sRet fe) := ds_of (ps_ret goE) (by
  intro σ β H env S d S' N re rs hf q
  obtain ⟨x, S1, e1, hf⟩ := bnd_inv hf
  cases hf
  exact h.run σ β H env S x S' N.rt re rs e1 q)
theorem ds_retN : DS X (.Return none pos) sRetN := ds_of ps_retN (by
  intro σ β H env S d S' N re rs hf q
  cases hf
  exact q _ β H .refl rs .non)
theorem ds_expr (h : DE X e fe) (hs : swapsWith e none pos.line X.env = pure false := by rfl) : DS X (.Expr e pos) (sDrop fe) := ds_of (ps_expr goE hs) (by
  intro σ β H env S d S' N re rs hf q
  obtain ⟨x, S1, e1, hf⟩ := bnd_inv hf
  cases hf
  refine h.run σ β H env S x S' _ re rs e1 fun v β1 H1 st1 rs1 r1 => ?_
  exact q σ β1 H1 st1 rs1 (re.step st1))
theorem ds_if {c : Expr} {a b : List Stmt} {fc : FT} (hc : DT X c fc) (ha : DSs X a f) (hb : DSs X b g) : DS X (.If c a b pos) (sIf fc f g) := ds_of (ps_if goT goSs goSs) (by
  intro σ β H env S d S' N re rs hf q
  obtain ⟨k, S1, e1, hf⟩ := bnd_inv hf
  refine hc.run σ β H env S k S1 _ re rs e1 fun β1 H1 st1 rs1 => ?_
  cases k with
  | true => exact ha.run σ β1 H1 env S1 d S' N (re.step st1) rs1 hf (q.step st1)
  | false => exact hb.run σ β1 H1 env S1 d S' N (re.step st1) rs1 hf (q.step st1))
theorem ds_set {i : Nat} {x : Str} {pos' : Pos} (hN : X.N.Nodup) (he : DE X e fe) (hi : X.N[i]? = some x := by rfl) (hx : Loc X.env.scope x := by first | exact Or.inl rfl | exact Or.inr rfl) (hs : swapsWith e (some (.Name x pos')) pos.line X.env = pure false := by rfl)
    (hf : X.fn x = true ∨ X.env.scope.names.lookup x = some .local := by first | exact .inl rfl | exact .inr rfl | assumption) : DS X (.Assign [.Name x pos'] e pos) (sSet i fe) := ds_of (ps_set hN hi hx goE hs hf) (by
  intro σ β H env S d S' N re rs hf q
  obtain ⟨x, S1, e1, hf⟩ := bnd_inv hf
  cases hf
  refine he.run σ β H env S x S' _ re rs e1 fun v β1 H1 st1 rs1 r1 => ?_
  exact q _ β1 H1 st1 rs1 ((re.step st1).set r1))
theorem ds_break : DS X (.Break pos) sBreak := ds_of ps_break (by
  intro σ β H env S d S' N re rs hf q
  cases hf
  exact q σ β H .refl rs re)
theorem ds_continue : DS X (.Continue pos) sCont := ds_of ps_continue (by
  intro σ β H env S d S' N re rs hf q
  cases hf
  exact q σ β H .refl rs re)
end
end Mir

set_option Elab.async false
set_option linter.all false
set_option maxRecDepth 100000
set_option autoImplicit false
set_option maxHeartbeats 1000000
/-! Mir3: operations by values, subscripts, slices, what a loop walks, loops, comprehensions. -/
namespace Mir
open PySem L2

/-! ### ints -/
def oI (C : Int → Int → Bool) (g : Int → Int → D) : F2 := fun x y S => match x, y with
  | .int i, .int j => if C i j then some (g i j, S) else none
  | _, _ => none
theorem rd_I {K : PySem.W.Frag} {C : Int → Int → Bool} {P : Int → Int → Prop} {g : Int → Int → D} {gv : Int → Int → V} (hc : ∀ i j, C i j = true → P i j) (hg : ∀ i j β H, RD K β H (g i j) (gv i j)) : Rd2 K (rI P gv) (oI C g) := by
  intro β H S x y v u d S' Q rs r1 r2 hf q
  cases r1 with
  | int i =>
    cases r2 with
    | int j =>
      have hf : (if C i j then some (g i j, S) else none) = some (d, S') := hf
      split at hf
      · rename_i h
        cases hf
        exact ⟨i, j, rfl, rfl, hc i j h, q.now rs (hg i j β H)⟩
      · cases hf
    | _ => cases hf
  | _ => cases hf
theorem rd_I0 {K : PySem.W.Frag} {g : Int → Int → D} {gv : Int → Int → V} (hg : ∀ i j β H, RD K β H (g i j) (gv i j)) : Rd2 K (rI0 gv) (oI (fun _ _ => true) g) := by
  intro β H S x y v u d S' Q rs r1 r2 hf q
  obtain ⟨i, j, e1, e2, _, h⟩ := rd_I (C := fun _ _ => true) (P := fun _ _ => True) (fun _ _ _ => trivial) hg β H S x y v u d S' Q rs r1 r2 hf q
  exact ⟨i, j, e1, e2, h⟩
def oSub : F2 := oI (fun _ _ => true) fun i j => .int (i - j)
def oMul : F2 := oI (fun i j => Nat.ble i.natAbs 18446744073709551615 || Nat.ble j.natAbs 18446744073709551615) fun i j => .int (i * j)
def oDiv : F2 := oI (fun _ j => decide (j ≠ 0) && decide (j.natAbs < 1073741824)) fun i j => .int (i.fdiv j)
def oMod : F2 := oI (fun _ j => decide (j ≠ 0)) fun i j => .int (i.fmod j)
def oPow : F2 := oI (fun i j => decide (0 ≤ j) && decide (j ≤ 1000000) && decide (i.natAbs < 2 ^ 64)) fun i j => .int (i ^ j.toNat)
section
variable {X : Cx} {pos : Pos} {a b : Expr} {fa fb : FE}
theorem de_sub (ha : DE X a fa) (hb : DE X b fb) : DE X (.BinOp a .Sub b pos) (fOp oSub fa fb) := de_op op_sub (rd_I0 fun i j _ _ => .int (i - j)) ha hb
theorem de_mul (ha : DE X a fa) (hb : DE X b fb) : DE X (.BinOp a .Mult b pos) (fOp oMul fa fb) := de_op op_mul (rd_I (fun i j h => by
  rcases Bool.or_eq_true_iff.mp h with h | h
  · have := Nat.le_of_ble_eq_true h
    exact .inl (by omega)
  · have := Nat.le_of_ble_eq_true h
    exact .inr (by omega)) fun i j _ _ => .int (i * j)) ha hb
theorem de_div (ha : DE X a fa) (hb : DE X b fb) : DE X (.BinOp a .FloorDiv b pos) (fOp oDiv fa fb) := de_op op_fdivN (rd_I (fun i j h => by
  simp only [Bool.and_eq_true, decide_eq_true_eq] at h
  exact h) fun i j _ _ => .int (i.fdiv j)) ha hb
theorem de_mod (ha : DE X a fa) (hb : DE X b fb) : DE X (.BinOp a .Mod b pos) (fOp oMod fa fb) := de_op op_modN (rd_I (fun i j h => by
  simp only [decide_eq_true_eq] at h
  exact h) fun i j _ _ => .int (i.fmod j)) ha hb
theorem de_pow (ha : DE X a fa) (hb : DE X b fb) : DE X (.BinOp a .Pow b pos) (fOp oPow fa fb) := de_op op_pow (rd_I (fun i j h => by
  simp only [Bool.and_eq_true, decide_eq_true_eq] at h
  exact ⟨h.1.1, h.1.2, h.2⟩) fun i j _ _ => .int (i ^ j.toNat)) ha hb
def oNeg : F1 := fun x S => match x with
  | .int i => some (.int (-i), S)
  | _ => none
theorem de_neg (ha : DE X a fa) : DE X (.UnaryOp .USub a pos) (fUn oNeg fa) := de_un un_neg (by
  intro β H S x v d S' Q rs r1 hf q
  cases r1 with
  | int i => cases hf; exact ⟨i, rfl, q.now rs (.int _)⟩
  | _ => cases hf) ha

/-! ### order -/
def oCmp (p : Int → Int → Bool) (ps : Str → Str → Bool) : F2 := fun x y S => match x, y with
  | .int i, .int j => some (.bl (p i j), S)
  | .str i, .str j => some (.bl (ps i j), S)
  | _, _ => none
theorem rd_cmp2 {K : PySem.W.Frag} {p : Int → Int → Bool} {ps : Str → Str → Bool} : Rd2 K (fun x y H Q => rI0 (fun i j => .bl (p i j)) x y H Q ∨ (∃ i j, x = .str i ∧ y = .str j ∧ Q (.bl (ps i j)) H)) (oCmp p ps) := by
  intro β H S x y v u d S' Q rs r1 r2 hf q
  cases r1 with
  | int i =>
    cases r2 with
    | int j => cases hf; exact .inl ⟨i, j, rfl, rfl, q.now rs (.bl _)⟩
    | _ => cases hf
  | str i =>
    cases r2 with
    | str j => cases hf; exact .inr ⟨i, j, rfl, rfl, q.now rs (.bl _)⟩
    | _ => cases hf
  | _ => cases hf
abbrev strLt (i j : Str) : Bool := decide (i.cps.toList < j.cps.toList)
abbrev strLe (i j : Str) : Bool := decide (i.cps.toList ≤ j.cps.toList)
def oLt : F2 := oCmp (fun i j => decide (i < j)) strLt
theorem opr_lt : OpR X (compareOp .Lt) (fun x y H Q => rI0 (fun i j => .bl (decide (i < j))) x y H Q ∨ (∃ i j, x = .str i ∧ y = .str j ∧ Q (.bl (strLt i j)) H)) := op_lt.or op_lt_str
/-- ints alone -/
def oLe : F2 := oI (fun _ _ => true) fun i j => .bl (decide (i ≤ j))
def oGt : F2 := oI (fun _ _ => true) fun i j => .bl (decide (j < i))
def oGe : F2 := oI (fun _ _ => true) fun i j => .bl (decide (j ≤ i))
theorem rd_le {K : PySem.W.Frag} : Rd2 K (rI0 fun i j => .bl (decide (i ≤ j))) oLe := rd_I0 fun i j _ _ => .bl _
theorem rd_gt {K : PySem.W.Frag} : Rd2 K (rI0 fun i j => .bl (decide (j < i))) oGt := rd_I0 fun i j _ _ => .bl _
theorem rd_ge {K : PySem.W.Frag} : Rd2 K (rI0 fun i j => .bl (decide (j ≤ i))) oGe := rd_I0 fun i j _ _ => .bl _
end

/-! ### data of the library -/
mutual
def D.py : D → Option PyData
  | .non => some .none
  | .bl b => some (.bool b)
  | .int i => some (.int i)
  | .str x => some (.str x)
  | .tup ds => (D.pys ds).map .tuple
  | .lst ds => (D.pys ds).map .list
  | .fro ds => (D.pys ds).map .list
  | _ => none
def D.pys : List D → Option (List PyData)
  | [] => some []
  | d :: ds => (D.py d).bind fun p => (D.pys ds).map fun ps => p :: ps
end
/-- a place of the store, read -/
def rdS (S : Store) : D → D
  | .loc n => match S[n]? with
    | some (.lst ds) => .fro ds
    | _ => .loc n
  | d => d
section
variable {K : PySem.W.Frag} {β : Bt} {H : Hp}
mutual
theorem RD.dp : ∀ (d : D) (v : V) (p : PyData), RD K β H d v → d.py = some p → Dp K H v p
  | .non, _, _, h, e => by cases h; simp only [D.py] at e; cases e; exact .non
  | .bl _, _, _, h, e => by cases h; simp only [D.py] at e; cases e; exact .bl _
  | .int _, _, _, h, e => by cases h; simp only [D.py] at e; cases e; exact .int _
  | .str _, _, _, h, e => by cases h; simp only [D.py] at e; cases e; exact .str _
  | .tup ds, _, _, h, e => by
    simp only [D.py] at e
    obtain ⟨ps, e1, e2⟩ := Option.map_eq_some_iff.mp e
    subst e2
    obtain ⟨a, vs, rfl, h1, h2⟩ := h.sqt
    exact .tup h1 (RDs.dp ds vs ps h2 e1)
  | .lst ds, _, _, h, e => by
    simp only [D.py] at e
    obtain ⟨ps, e1, e2⟩ := Option.map_eq_some_iff.mp e
    subst e2
    obtain ⟨a, vs, rfl, h1, h2⟩ := h.sql
    exact .lst h1 (RDs.dp ds vs ps h2 e1)
  | .fro ds, _, _, h, e => by
    simp only [D.py] at e
    obtain ⟨ps, e1, e2⟩ := Option.map_eq_some_iff.mp e
    subst e2
    obtain ⟨a, vs, rfl, h1, h2⟩ := h.sqf
    exact .lst h1 (RDs.dp ds vs ps h2 e1)
  | .dic _ _, _, _, _, e => by simp only [D.py] at e; cases e
  | .loc _, _, _, _, e => by simp only [D.py] at e; cases e
  | .raw _, _, _, _, e => by simp only [D.py] at e; cases e
theorem RDs.dp : ∀ (ds : List D) (vs : List V) (ps : List PyData), RDs K β H ds vs → D.pys ds = some ps → DpAll K H vs ps
  | [], _, _, h, e => by cases h; simp only [D.pys] at e; cases e; exact .nil
  | d :: ds, _, _, h, e => by
    simp only [D.pys] at e
    obtain ⟨p, e1, e⟩ := Option.bind_eq_some_iff.mp e
    obtain ⟨ps, e2, e3⟩ := Option.map_eq_some_iff.mp e
    subst e3
    cases h with | cons h1 h2 => exact .cons (RD.dp d _ p h1 e1) (RDs.dp ds _ ps h2 e2)
end
/-- a list that is a place, read as it stands now -/
theorem RS.rd {S : Store} {d : D} {v : V} (h : RS K β H S) (r : RD K β H d v) : (rdS S d = d ∧ RD K β H d v) ∨ ∃ n a ds vs, d = .loc n ∧ rdS S d = .fro ds ∧ S[n]? = some (.lst ds) ∧ β n = some a ∧ v = .ref a ∧ H a = some (.lst vs) ∧ RDs K β H ds vs := by
  cases r with
  | loc hl =>
    obtain ⟨o, u, g1, g2, g3⟩ := h.ne hl
    cases g3 with
    | lst g3 =>
      refine .inr ⟨_, _, _, _, rfl, ?_, g1, hl, rfl, g2, g3⟩
      unfold rdS
      simp only [g1]
    | dic e g3 =>
      refine .inl ⟨?_, .loc hl⟩
      unfold rdS
      simp only [g1]
    | ins e g3 =>
      refine .inl ⟨?_, .loc hl⟩
      unfold rdS
      simp only [g1]
  | non => exact .inl ⟨rfl, .non⟩
  | bl b => exact .inl ⟨rfl, .bl b⟩
  | int b => exact .inl ⟨rfl, .int b⟩
  | str b => exact .inl ⟨rfl, .str b⟩
  | tup h1 h2 h3 => exact .inl ⟨rfl, .tup h1 h2 h3⟩
  | ktup h1 h3 => exact .inl ⟨rfl, .ktup h1 h3⟩
  | lst h1 h2 h3 => exact .inl ⟨rfl, .lst h1 h2 h3⟩
  | fro h1 h2 h3 => exact .inl ⟨rfl, .fro h1 h2 h3⟩
  | kfro h1 h3 => exact .inl ⟨rfl, .kfro h1 h3⟩
  | dic h1 h2 h3 h4 => exact .inl ⟨rfl, .dic h1 h2 h3 h4⟩
  | raw v => exact .inl ⟨rfl, .raw v⟩
theorem RS.dp {S : Store} {d : D} {v : V} {p : PyData} (h : RS K β H S) (r : RD K β H d v) (e : (rdS S d).py = some p) : Dp K H v p := by
  rcases h.rd r with ⟨e1, r1⟩ | ⟨n, a, ds, vs, rfl, e1, e2, e3, rfl, e5, e6⟩
  · rw [e1] at e
    exact RD.dp d v p r1 e
  · rw [e1] at e
    simp only [D.py] at e
    obtain ⟨ps, e7, e8⟩ := Option.map_eq_some_iff.mp e
    subst e8
    exact .lst (.inl (.inl e5)) (RDs.dp ds vs ps e6 e7)
/-- a list, a tuple, a list that is a place: its items -/
def seqOf (S : Store) : D → Option (List D)
  | .tup ds => some ds
  | .lst ds => some ds
  | .fro ds => some ds
  | .loc n => match S[n]? with
    | some (.lst ds) => some ds
    | _ => none
  | _ => none
theorem RS.seq {S : Store} {d : D} {v : V} {ds : List D} (h : RS K β H S) (r : RD K β H d v) (e : seqOf S d = some ds) : ∃ a vs, v = .ref a ∧ (SqL K H a vs ∨ SqT K H a vs) ∧ RDs K β H ds vs := by
  cases r with
  | loc hl =>
    obtain ⟨o, u, g1, g2, g3⟩ := h.ne hl
    unfold seqOf at e
    simp only [g1] at e
    cases g3 with
    | lst g3 => cases e; exact ⟨_, _, rfl, .inl (.inl (.inl g2)), g3⟩
    | dic _ g3 => cases e
    | ins _ g3 => cases e
  | tup h1 h2 h3 => cases e; exact ⟨_, _, rfl, .inr (.inl h1), h3⟩
  | ktup h1 h3 => cases e; exact ⟨_, _, rfl, .inr (.inr h1), h3⟩
  | lst h1 h2 h3 => cases e; exact ⟨_, _, rfl, .inl (.inl (.inl h1)), h3⟩
  | fro h1 h2 h3 => cases e; exact ⟨_, _, rfl, .inl (.inl h1), h3⟩
  | kfro h1 h3 => cases e; exact ⟨_, _, rfl, .inl (.inr h1), h3⟩
  | _ => cases e
end

/-- a list alone -/
def lsOf (S : Store) : D → Option (List D)
  | .lst ds => some ds
  | .fro ds => some ds
  | .loc n => match S[n]? with
    | some (.lst ds) => some ds
    | _ => none
  | _ => none
theorem RS.lsq {K : PySem.W.Frag} {β : Bt} {H : Hp} {S : Store} {d : D} {v : V} {ds : List D} (h : RS K β H S) (r : RD K β H d v) (e : lsOf S d = some ds) : ∃ a vs, v = .ref a ∧ SqL K H a vs ∧ RDs K β H ds vs := by
  cases r with
  | loc hl =>
    obtain ⟨o, u, g1, g2, g3⟩ := h.ne hl
    unfold lsOf at e
    simp only [g1] at e
    cases g3 with
    | lst g3 => cases e; exact ⟨_, _, rfl, .inl (.inl g2), g3⟩
    | dic _ g3 => cases e
    | ins _ g3 => cases e
  | lst h1 h2 h3 => cases e; exact ⟨_, _, rfl, .inl (.inl h1), h3⟩
  | fro h1 h2 h3 => cases e; exact ⟨_, _, rfl, .inl h1, h3⟩
  | kfro h1 h3 => cases e; exact ⟨_, _, rfl, .inr h1, h3⟩
  | _ => cases e

/-! ### ==, != -/
def oEqN (neg : Bool) : F2 := fun x y S => match (rdS S x).py, (rdS S y).py with
  | some p, some q => if SeqAt.shaped p && SeqAt.shaped q then some (.bl (if neg then !PyData.eqv p q else PyData.eqv p q), S) else none
  | _, _ => none
def oEq : F2 := oEqN false
def oNe : F2 := oEqN true
theorem rd_eq {K : PySem.W.Frag} : Rd2 K (rEqD K) oEq := by
  intro β H S x y v u d S' Q rs r1 r2 hf q
  unfold oEq oEqN at hf
  split at hf
  · rename_i p p' e1 e2
    split at hf
    · rename_i hs
      cases hf
      rw [Bool.and_eq_true] at hs
      exact ⟨p, p', rs.dp r1 e1, rs.dp r2 e2, hs.1, hs.2, q.now rs (.bl _)⟩
    · cases hf
  · cases hf
theorem rd_ne {K : PySem.W.Frag} : Rd2 K (rNeD K) oNe := by
  intro β H S x y v u d S' Q rs r1 r2 hf q
  unfold oNe oEqN at hf
  split at hf
  · rename_i p p' e1 e2
    split at hf
    · rename_i hs
      cases hf
      rw [Bool.and_eq_true] at hs
      exact ⟨p, p', rs.dp r1 e1, rs.dp r2 e2, hs.1, hs.2, q.now rs (.bl _)⟩
    · cases hf
  · cases hf

/-! ### in, not in: flat things in a list or tuple; a sign in a text -/
def D.fv : D → Option V
  | .non => some .non
  | .bl b => some (.bl b)
  | .int i => some (.int i)
  | .str x => some (.str x)
  | _ => none
def D.fvs : List D → Option (List V)
  | [] => some []
  | d :: ds => d.fv.bind fun v => (D.fvs ds).map fun vs => v :: vs
theorem RD.fv {K : PySem.W.Frag} {β : Bt} {H : Hp} {d : D} {v w : V} (h : RD K β H d v) (e : d.fv = some w) : v = w ∧ flatV v = true := by
  cases h <;> first
    | (cases e; exact ⟨rfl, rfl⟩)
    | cases e
theorem RDs.fvs {K : PySem.W.Frag} {β : Bt} {H : Hp} : ∀ {ds : List D} {vs ws : List V}, RDs K β H ds vs → D.fvs ds = some ws → vs = ws ∧ vs.all flatV = true
  | [], _, _, h, e => by cases h; cases e; exact ⟨rfl, rfl⟩
  | d :: ds, _, _, h, e => by
    unfold D.fvs at e
    obtain ⟨w, e1, e⟩ := Option.bind_eq_some_iff.mp e
    obtain ⟨ws, e2, e3⟩ := Option.map_eq_some_iff.mp e
    subst e3
    cases h with
    | cons h1 h2 =>
      obtain ⟨a1, a2⟩ := h1.fv e1
      obtain ⟨b1, b2⟩ := RDs.fvs h2 e2
      subst a1 b1
      exact ⟨rfl, by rw [List.all_cons, a2, b2]; rfl⟩
def oInN (neg : Bool) : F2 := fun x y S => match y with
  | .str z => (match x with
    | .str a => (match a.cps.toList with
      | [c] => some (.bl (if neg then !decide (c ∈ z.cps.toList) else decide (c ∈ z.cps.toList)), S)
      | _ => none)
    | _ => none)
  | y => match seqOf S y with
    | some ds => (match x.fv, D.fvs ds with
      | some v, some vs => some (.bl (if neg then !inV v vs else inV v vs), S)
      | _, _ => none)
    | none => none
theorem str_one {a : Str} {c : Nat} (h : a.cps.toList = [c]) : a = ⟨#[c]⟩ := by
  obtain ⟨cps⟩ := a
  have h : cps.toList = [c] := h
  have : cps = #[c] := by
    rw [← Array.toArray_toList (xs := cps), h]
  rw [this]
theorem rd_inN {K : PySem.W.Frag} (neg : Bool) : Rd2 K (fun x y H Q => rIn K neg x y H Q ∨ (∃ (c : Nat) (z : Str), x = .str ⟨#[c]⟩ ∧ y = .str z ∧ Q (.bl (if neg then !decide (c ∈ z.cps.toList) else decide (c ∈ z.cps.toList))) H)) (oInN neg) := by
  intro β H S x y v u d S' Q rs r1 r2 hf q
  unfold oInN at hf
  split at hf
  · cases r2
    split at hf
    · cases r1
      split at hf
      · rename_i c hc
        cases hf
        rw [str_one hc]
        exact .inr ⟨c, _, rfl, rfl, q.now rs (.bl _)⟩
      · cases hf
    · cases hf
  · split at hf
    · rename_i ds hd
      split at hf
      · rename_i w ws e1 e2
        cases hf
        obtain ⟨a, vs, rfl, h1, h2⟩ := rs.seq r2 hd
        obtain ⟨a1, a2⟩ := r1.fv e1
        obtain ⟨b1, b2⟩ := h2.fvs e2
        subst a1 b1
        exact .inl ⟨a, vs, rfl, h1, a2, b2, q.now rs (.bl _)⟩
      · cases hf
    · cases hf
section
variable {X : Cx}
theorem opr_in : OpR X (compareOp .In) (fun x y H Q => rIn X.K false x y H Q ∨ (∃ (c : Nat) (z : Str), x = .str ⟨#[c]⟩ ∧ y = .str z ∧ Q (.bl (if false = true then !decide (c ∈ z.cps.toList) else decide (c ∈ z.cps.toList))) H)) := op_in_seq.or op_in_sign
theorem opr_notin : OpR X (compareOp .NotIn) (fun x y H Q => rIn X.K true x y H Q ∨ (∃ (c : Nat) (z : Str), x = .str ⟨#[c]⟩ ∧ y = .str z ∧ Q (.bl (if true = true then !decide (c ∈ z.cps.toList) else decide (c ∈ z.cps.toList))) H)) := op_notIn_seq.or op_notIn_sign
end

/-! ### + -/
def oAdd : F2 := fun x y S => match x, y with
  | .int i, .int j => some (.int (i + j), S)
  | .str a, .str b => if a.length + b.length ≤ sizeLine then some (.str (a ++ b), S) else none
  | .lst a, .lst b => if a.length + b.length ≤ sizeLine then some (.lst (a ++ b), S) else none
  | .tup a, .tup b => if a.length + b.length ≤ sizeLine then some (.tup (a ++ b), S) else none
  | _, _ => none
def rAddA (K : PySem.W.Frag) : R2 := fun x y H Q => rI0 (fun i j => .int (i + j)) x y H Q ∨ (∃ i j, x = .str i ∧ y = .str j ∧ i.length + j.length ≤ sizeLine ∧ Q (.str (i ++ j)) H) ∨ rCat x y H Q ∨ rCatA K x y H Q
theorem opr_add {X : Cx} : OpR X (binaryOp .Add) (rAddA X.K) := op_add.or (op_add_str.or (op_cat.or op_catA))
theorem rd_add {K : PySem.W.Frag} : Rd2 K (rAddA K) oAdd := by
  intro β H S x y v u d S' Q rs r1 r2 hf q
  unfold oAdd at hf
  split at hf
  · cases r1; cases r2; cases hf
    exact .inl ⟨_, _, rfl, rfl, q.now rs (.int _)⟩
  · cases r1; cases r2
    split at hf
    · rename_i hl
      cases hf
      exact .inr (.inl ⟨_, _, rfl, rfl, hl, q.now rs (.str _)⟩)
    · cases hf
  · split at hf
    · rename_i hl
      cases hf
      obtain ⟨a, vs, rfl, h1, h2, h3⟩ := r1.lst_inv
      obtain ⟨b, ws, rfl, g1, g2, g3⟩ := r2.lst_inv
      exact .inr (.inr (.inl ⟨a, b, vs, ws, rfl, rfl, h1, g1, by rw [← h3.length, ← g3.length]; exact hl, q.newL rs (h3.append g3)⟩))
    · cases hf
  · split at hf
    · rename_i hl
      cases hf
      obtain ⟨a, vs, e1, h1, h3⟩ := r1.sqt
      obtain ⟨b, ws, e2, g1, g3⟩ := r2.sqt
      refine .inr (.inr (.inr ⟨a, b, vs, ws, e1, e2, h1, g1, by rw [← h3.length, ← g3.length]; exact hl, fun e => ?_, fun _ e => ?_, fun _ _ => q.newT rs (h3.append g3)⟩))
      · subst e
        cases h3
        rw [← e2]
        exact q.now rs r2
      · subst e
        cases g3
        rw [← e1]
        exact q.now rs (by rw [List.append_nil]; exact r1)
    · cases hf
  · cases hf
theorem de_add {X : Cx} {pos : Pos} {a b : Expr} {fa fb : FE} (ha : DE X a fa) (hb : DE X b fb) : DE X (.BinOp a .Add b pos) (fOp oAdd fa fb) := de_op opr_add rd_add ha hb

/-! ### a[i] -/
theorem atI_map {K : PySem.W.Frag} {β : Bt} {H : Hp} {ds : List D} {vs : List V} {i : Int} {d : D} (h : RDs K β H ds vs) (e : atI ds i = some d) : ∃ v, atI vs i = some v ∧ RD K β H d v := by
  unfold atI at e ⊢
  rw [← h.length]
  obtain ⟨j, e1, e2⟩ := Option.bind_eq_some_iff.mp e
  obtain ⟨v, e3, r⟩ := h.get e2
  exact ⟨v, by rw [e1]; exact e3, r⟩
def oIx : F2 := fun x y S => match y with
  | .int i => (match x with
    | .str z => if z.length ≤ sizeLine then (atI z.cps.toList i).map fun c => (.str ⟨#[c]⟩, S) else none
    | x => (seqOf S x).bind fun ds => (atI ds i).map fun d => (d, S))
  | _ => none
theorem rd_ix {K : PySem.W.Frag} : Rd2 K (rIx K) oIx := by
  intro β H S x y v u d S' Q rs r1 r2 hf q
  unfold oIx at hf
  split at hf
  · cases r2
    split at hf
    · cases r1
      split at hf
      · rename_i hl
        obtain ⟨c, e1, e2⟩ := Option.map_eq_some_iff.mp hf
        cases e2
        exact .inr (.inr ⟨_, _, c, rfl, rfl, hl, e1, q.now rs (.str _)⟩)
      · cases hf
    · obtain ⟨ds, e1, hf⟩ := Option.bind_eq_some_iff.mp hf
      obtain ⟨c, e2, e3⟩ := Option.map_eq_some_iff.mp hf
      cases e3
      obtain ⟨a, vs, rfl, h1, h2⟩ := rs.seq r1 e1
      obtain ⟨w, e4, r4⟩ := atI_map h2 e2
      rcases h1 with h1 | h1
      · exact .inl ⟨a, vs, _, w, rfl, rfl, h1, e4, q.now rs r4⟩
      · exact .inr (.inl ⟨a, vs, _, w, rfl, rfl, h1, e4, q.now rs r4⟩)
  · cases hf
theorem de_ix {X : Cx} {pos : Pos} {a b : Expr} {fa fb : FE} (ha : DE X a fa) (hb : DE X b fb) (hs : PlainIx b := by intro _ _; rfl) : DE X (.Subscript a b pos) (fOp oIx fa fb) := de_of (pe_ix ix_seq goE goE hs) (rd_op rd_ix ha.run hb.run)

/-! ### a[lo:hi] -/
abbrev FO := Env → Store → Option (Option Int × Store)
def RdO (K : PySem.W.Frag) (t : TO) (f : FO) : Prop := ∀ (σ : L2.St) (β : Bt) (H : Hp) (env : Env) (S : Store) (d : Option Int) (S' : Store) (Q : Option Int → Hp → Prop), RE K β H env σ → RS K β H S → f env S = some (d, S') →
  (∀ β' H', Step β H β' H' → RS K β' H' S' → Q d H') → t σ H Q
def foNone : FO := fun _ S => some (none, S)
def asI (x : Option (D × Store)) : Option (Int × Store) := match x with
  | some (.int i, S) => some (i, S)
  | _ => none
theorem asI_inv {x : Option (D × Store)} {i : Int} {S : Store} (h : asI x = some (i, S)) : x = some (.int i, S) := by
  unfold asI at h
  split at h
  · cases h; rfl
  · cases h
def foSome (f : FE) : FO := fun env S => bnd (asI (f env S)) fun i S1 => some (some i, S1)
def cutD (xs : List D) (lo hi : Option Int) : List D := (xs.drop (HT.sIx xs.length 0 lo)).take (HT.sIx xs.length xs.length hi - HT.sIx xs.length 0 lo)
def oSl (x : D) (lo hi : Option Int) (S : Store) : Option (D × Store) := match x with
  | .str z => if z.length ≤ sizeLine then some (.str (cutS z lo hi), S) else none
  | .tup ds => some (.tup (cutD ds lo hi), S)
  | x => (lsOf S x).map fun ds => (.lst (cutD ds lo hi), S)
def fSl (f : FE) (fl fh : FO) : FE := fun env S => bnd (f env S) fun x S1 => bnd (fl env S1) fun l S2 => bnd (fh env S2) fun h S3 => oSl x l h S3
theorem RDs.cutD {K : PySem.W.Frag} {β : Bt} {H : Hp} {ds : List D} {vs : List V} (h : RDs K β H ds vs) (lo hi : Option Int) : RDs K β H (cutD ds lo hi) (cutV vs lo hi) := by
  unfold Mir.cutD cutV
  rw [← h.length]
  exact (h.drop _).take _
def rSlAll (K : PySem.W.Frag) : V → Option Int → Option Int → Hp → VK → Prop := fun x lo hi H Q => rSlS x lo hi H Q ∨ rSlL K x lo hi H Q ∨ rSlA K x lo hi H Q
theorem sl_all {X : Cx} : SlR X (rSlAll X.K) := sl_str.or (sl_list.or sl_tupA)
section
variable {X : Cx} {K : PySem.W.Frag} {pos p2 : Pos} {e : Expr} {lo hi : Option Expr} {f : FE} {fl fh : FO} {te : TE} {tl th : TO}
theorem rd_foNone : RdO K tNoPart foNone := by
  intro σ β H env S d S' Q re rs hf q
  cases hf
  exact q β H .refl rs
theorem rd_foSome (h : RdE K te f) : RdO K (tPart te) (foSome f) := by
  intro σ β H env S d S' Q re rs hf q
  obtain ⟨i, S1, e1, hf⟩ := bnd_inv hf
  cases hf
  refine h σ β H env S (.int i) S' _ re rs (asI_inv e1) fun v β1 H1 st1 rs1 r1 => ?_
  cases r1
  exact ⟨i, rfl, q β1 H1 st1 rs1⟩
theorem rd_slv (β : Bt) (H : Hp) (S : Store) (x : D) (v : V) (l u : Option Int) (d : D) (S' : Store) (Q : VK) (rs3 : RS K β H S) (r3 : RD K β H x v) (hf : oSl x l u S = some (d, S')) (q3 : PostE K β H S' d Q) : rSlAll K v l u H Q := by
  unfold oSl at hf
  split at hf
  · cases r3
    split at hf
    · rename_i hl
      cases hf
      exact .inl ⟨_, rfl, hl, q3.now rs3 (.str _)⟩
    · cases hf
  · rename_i ds
    cases hf
    obtain ⟨a, vs, e4, h1, h2⟩ := r3.sqt
    refine .inr (.inr ⟨a, vs, e4, h1, fun ⟨w1, w2⟩ => ?_, fun _ => q3.newT rs3 (h2.cutD _ _)⟩)
    rw [← e4]
    refine q3.now rs3 ?_
    have : Mir.cutD ds l u = ds := by
      unfold Mir.cutD
      rw [h2.length, w1, w2, ← h2.length]
      simp
    rw [this]
    exact r3
  · obtain ⟨ds, e4, e5⟩ := Option.map_eq_some_iff.mp hf
    cases e5
    obtain ⟨a, vs, rfl, h1, h2⟩ := rs3.lsq r3 e4
    exact .inr (.inl ⟨a, vs, rfl, h1, q3.newL rs3 (h2.cutD _ _)⟩)
def DO (X : Cx) (e : Option Expr) (f : FO) : Prop := ∃ t, PO X e t ∧ RdO X.K t f
theorem do_none : DO X none foNone := ⟨_, po_none, rd_foNone⟩
theorem do_some (h : DE X e f) : DO X (some e) (foSome f) := ⟨_, po_some goE, rd_foSome h.run⟩
theorem de_sl (he : DE X e f) (hl : DO X lo fl) (hh : DO X hi fh) : DE X (.Subscript e (.Slice lo hi none p2) pos) (fSl f fl fh) := by
  obtain ⟨tl, pl, rl⟩ := hl
  obtain ⟨th, ph, rh⟩ := hh
  refine de_of (pe_slice sl_all goE pl ph) ?_
  intro σ β H env S d S' Q re rs hf q
  obtain ⟨x, S1, e1, hf⟩ := bnd_inv hf
  obtain ⟨l, S2, e2, hf⟩ := bnd_inv hf
  obtain ⟨u, S3, e3, hf⟩ := bnd_inv hf
  refine he.run σ β H env S x S1 _ re rs e1 fun v β1 H1 st1 rs1 r1 => ?_
  refine rl σ β1 H1 env S1 l S2 _ (re.step st1) rs1 e2 fun β2 H2 st2 rs2 => ?_
  refine rh σ β2 H2 env S2 u S3 _ ((re.step st1).step st2) rs2 e3 fun β3 H3 st3 rs3 => ?_
  exact rd_slv β3 H3 S3 x v l u d S' Q rs3 (RD.step st3 _ _ (RD.step st2 _ _ r1)) hf (((q.step st1).step st2).step st3)
end
end Mir

set_option Elab.async false
set_option linter.all false
set_option maxRecDepth 100000
set_option autoImplicit false
set_option maxHeartbeats 1000000
/-! Mir4: what a loop walks, targets, for, while, comprehensions, stores by place, calls, defs. -/
namespace Mir
open PySem L2

/-! ### what is walked -/
def ItOk (K : PySem.W.Frag) (β : Bt) (H : Hp) (J : It) (ds : List D) : Prop :=
  ∀ β' H', Step β H β' H' → (∀ (i : Nat) (d : D), ds[i]? = some d → J.go i H' ∧ ∀ x H2, J.yld i H' x H2 → ∀ S, RS K β' H' S → Step β' H' β' H2 ∧ RS K β' H2 S ∧ RD K β' H2 d x) ∧ J.stop ds.length H'
def RdI (K : PySem.W.Frag) (wi : TI) (f : FA) : Prop := ∀ (σ : L2.St) (β : Bt) (H : Hp) (env : Env) (S : Store) (ds : List D) (S' : Store) (R : It → Hp → Prop), RE K β H env σ → RS K β H S → f env S = some (ds, S') →
  (∀ J β' H', Step β H β' H' → RS K β' H' S' → ItOk K β' H' J ds → R J H') → wi σ H R
def DI (X : Cx) (tg iter : Expr) (f : FA) : Prop := ∃ wi, PI X tg iter wi ∧ RdI X.K wi f
def fIt (g : D → Option (List D)) (f : FE) : FA := fun env S => bnd (f env S) fun d S1 => (g d).map fun ds => (ds, S1)
def gList : D → Option (List D)
  | .lst ds => some ds
  | .fro ds => some ds
  | _ => none
def gTup : D → Option (List D)
  | .tup ds => some ds
  | _ => none
def gStr : D → Option (List D)
  | .str z => some (z.cps.toList.map fun c => .str ⟨#[c]⟩)
  | _ => none
section
variable {K : PySem.W.Frag} {β β' : Bt} {H H' : Hp} {ds : List D} {v : V} {a : Addr}
theorem itOk_list (h : ∀ β' H', Step β H β' H' → ∃ vs, SqL K H' a vs ∧ RDs K β' H' ds vs) : ItOk K β H (Itl K a) ds := by
  intro β' H' st
  obtain ⟨vs, h1, h2⟩ := h β' H' st
  refine ⟨fun i d hd => ?_, ⟨vs, h1, by rw [h2.length]; exact Nat.le_refl _⟩⟩
  obtain ⟨w, e, r⟩ := h2.get hd
  refine ⟨⟨vs, w, h1, e⟩, fun x H2 y S rs => ?_⟩
  obtain ⟨rfl, y⟩ := y
  have := y vs h1
  rw [e] at this
  cases this
  exact ⟨.refl, rs, r⟩
theorem itOk_tup (h : ∀ β' H', Step β H β' H' → ∃ vs, SqT K H' a vs ∧ RDs K β' H' ds vs) : ItOk K β H (Itt K a) ds := by
  intro β' H' st
  obtain ⟨vs, h1, h2⟩ := h β' H' st
  refine ⟨fun i d hd => ?_, ⟨vs, h1, by rw [h2.length]; exact Nat.le_refl _⟩⟩
  obtain ⟨w, e, r⟩ := h2.get hd
  refine ⟨⟨vs, w, h1, e⟩, fun x H2 y S rs => ?_⟩
  obtain ⟨rfl, y⟩ := y
  have := y vs h1
  rw [e] at this
  cases this
  exact ⟨.refl, rs, r⟩
theorem gList_ok {d : D} (h : RD K β H d v) (e : gList d = some ds) : ∃ a, v = .ref a ∧ ∀ β' H', Step β H β' H' → ∃ vs, SqL K H' a vs ∧ RDs K β' H' ds vs := by
  cases h with
  | lst h1 h2 h3 =>
    cases e
    exact ⟨_, rfl, fun β' H' st => ⟨_, .inl (.inl (st.keep _ _ h1 h2)), RDs.step st _ _ h3⟩⟩
  | fro h1 h2 h3 =>
    cases e
    exact ⟨_, rfl, fun β' H' st => ⟨_, .inl (st.rd h1 h2).1, RDs.step st _ _ h3⟩⟩
  | kfro h1 h3 =>
    cases e
    exact ⟨_, rfl, fun β' H' st => ⟨_, .inr h1, RDs.step st _ _ h3⟩⟩
  | _ => cases e
theorem gTup_ok {d : D} (h : RD K β H d v) (e : gTup d = some ds) : ∃ a, v = .ref a ∧ ∀ β' H', Step β H β' H' → ∃ vs, SqT K H' a vs ∧ RDs K β' H' ds vs := by
  cases h with
  | tup h1 h2 h3 =>
    cases e
    exact ⟨_, rfl, fun β' H' st => ⟨_, .inl (st.rd h1 h2).1, RDs.step st _ _ h3⟩⟩
  | ktup h1 h3 =>
    cases e
    exact ⟨_, rfl, fun β' H' st => ⟨_, .inr h1, RDs.step st _ _ h3⟩⟩
  | _ => cases e
end
section
variable {X : Cx} {tg l : Expr} {f : FE} {pos p : Pos}
theorem di_list (h : DE X l f) : DI X tg l (fIt gList f) := ⟨_, pi_list goE, by
  intro σ β H env S ds S' R re rs hf q
  obtain ⟨d, S1, e1, hf⟩ := bnd_inv hf
  obtain ⟨ds', e2, e3⟩ := Option.map_eq_some_iff.mp hf
  cases e3
  refine h.run σ β H env S d S' _ re rs e1 fun v β1 H1 st1 rs1 r1 => ?_
  obtain ⟨a, rfl, k⟩ := gList_ok r1 e2
  obtain ⟨vs, h1, _⟩ := k β1 H1 .refl
  exact ⟨a, rfl, ⟨vs, h1⟩, q _ β1 H1 st1 rs1 (itOk_list k)⟩⟩
theorem di_tup (h : DE X l f) : DI X tg l (fIt gTup f) := ⟨_, pi_tup goE, by
  intro σ β H env S ds S' R re rs hf q
  obtain ⟨d, S1, e1, hf⟩ := bnd_inv hf
  obtain ⟨ds', e2, e3⟩ := Option.map_eq_some_iff.mp hf
  cases e3
  refine h.run σ β H env S d S' _ re rs e1 fun v β1 H1 st1 rs1 r1 => ?_
  obtain ⟨a, rfl, k⟩ := gTup_ok r1 e2
  obtain ⟨vs, h1, _⟩ := k β1 H1 .refl
  exact ⟨a, rfl, ⟨vs, h1⟩, q _ β1 H1 st1 rs1 (itOk_tup k)⟩⟩
theorem di_str (h : DE X l f) : DI X tg l (fIt gStr f) := ⟨_, pi_str goE, by
  intro σ β H env S ds S' R re rs hf q
  obtain ⟨d, S1, e1, hf⟩ := bnd_inv hf
  obtain ⟨ds', e2, e3⟩ := Option.map_eq_some_iff.mp hf
  cases e3
  refine h.run σ β H env S d S' _ re rs e1 fun v β1 H1 st1 rs1 r1 => ?_
  unfold gStr at e2
  split at e2
  · rename_i z
    cases e2
    cases r1
    refine ⟨z, rfl, q _ β1 H1 st1 rs1 fun β2 H2 st2 => ⟨fun i d hd => ?_, ?_⟩⟩
    · rw [List.getElem?_map] at hd
      obtain ⟨c, hc, rfl⟩ := Option.map_eq_some_iff.mp hd
      have hc' : z.cps[i]? = some c := by rw [← Array.getElem?_toList]; exact hc
      refine ⟨(Array.getElem?_eq_some_iff.mp hc').1, fun x H3 y S rs => ?_⟩
      obtain ⟨rfl, c', hc2, rfl⟩ := y
      rw [hc'] at hc2
      cases hc2
      exact ⟨.refl, rs, .str _⟩
    · show z.cps.size ≤ _
      rw [List.length_map, Array.length_toList]
      exact Nat.le_refl _
  · cases e2⟩
/-- the ints from lo below hi -/
def rng (lo hi : Int) : List D := (List.range (hi - lo).toNat).map fun i => .int (lo + (i : Nat))
theorem itOk_rng {K : PySem.W.Frag} {β : Bt} {H : Hp} {lo : Int} {n : Nat} : ItOk K β H (Itr lo n) ((List.range n).map fun i => .int (lo + (i : Nat))) := by
  intro β' H' st
  refine ⟨fun i d hd => ?_, ?_⟩
  · rw [List.getElem?_map] at hd
    obtain ⟨c, hc, rfl⟩ := Option.map_eq_some_iff.mp hd
    obtain ⟨h1, h2⟩ := List.getElem?_eq_some_iff.mp hc
    rw [List.length_range] at h1
    rw [List.getElem_range] at h2
    subst h2
    refine ⟨h1, fun x H3 y S rs => ?_⟩
    obtain ⟨rfl, rfl⟩ := y
    exact ⟨.refl, rs, .int _⟩
  · show n ≤ _
    rw [List.length_map, List.length_range]
    exact Nat.le_refl _
def okR (i : Int) : Bool := Nat.ble i.natAbs 4611686018427387903
def fRng1 (f : FE) : FA := fun env S => bnd (asI (f env S)) fun j S1 => if okR j then some (rng 0 j, S1) else none
def fRng2 (f g : FE) : FA := fun env S => bnd (asI (f env S)) fun i S1 => bnd (asI (g env S1)) fun j S2 => if okR i && okR j then some (rng i j, S2) else none
theorem okR_ok {i : Int} (h : okR i = true) : -(2 ^ 62) ≤ i ∧ i < 2 ^ 62 := by
  have h2 := Nat.le_of_ble_eq_true h
  omega
theorem okR_of {i : Int} (h1 : -1000000 ≤ i) (h2 : i ≤ 1000000) : okR i = true := Nat.ble_eq_true_of_le (by omega)
theorem di_rng1 (hm : X.mg "range" = none) (h : DE X l f) (hg : Gl X "range" := by rfl) (hs : starEach [l] X.env = [(false, eval l X.env)] := by first | exact st_cons rfl | rfl) : DI X tg (.Call (.Name "range" p) [l] [] pos) (fRng1 f) := ⟨_, pi_range1 hg hm goA hs, by
  intro σ β H env S ds S' R re rs hf q
  obtain ⟨j, S1, e1, hf⟩ := bnd_inv hf
  split at hf
  · rename_i hj
    cases hf
    refine (da_consS h da_nil (by rw [hs]; rfl)).run σ β H env S [.int j] S' _ re rs (by unfold fCons; rw [asI_inv e1]; rfl) fun vs β1 H1 st1 rs1 r1 => ?_
    cases r1 with
    | cons r1 r2 =>
      cases r2
      cases r1
      refine ⟨j, rfl, (okR_ok hj).1, (okR_ok hj).2, q _ β1 H1 st1 rs1 ?_⟩
      have e : j.toNat = (j - 0).toNat := by rw [Int.sub_zero]
      rw [e]
      exact itOk_rng
  · cases hf⟩
theorem di_rng2 {l2 : Expr} {g : FE} (hm : X.mg "range" = none) (h : DE X l f) (h2 : DE X l2 g) (hg : Gl X "range" := by rfl) (hs : starEach [l, l2] X.env = [(false, eval l X.env), (false, eval l2 X.env)] := by rfl) (hs2 : starEach [l2] X.env = [(false, eval l2 X.env)] := by rfl) :
    DI X tg (.Call (.Name "range" p) [l, l2] [] pos) (fRng2 f g) := ⟨_, pi_range2 hg hm goA hs hs2, by
  intro σ β H env S ds S' R re rs hf q
  obtain ⟨i, S1, e1, hf⟩ := bnd_inv hf
  obtain ⟨j, S2, e2, hf⟩ := bnd_inv hf
  split at hf
  · rename_i hj
    cases hf
    rw [Bool.and_eq_true] at hj
    refine (da_consS h (da_consS h2 da_nil (by rw [hs2]; rfl)) (by rw [hs, hs2])).run σ β H env S [.int i, .int j] S' _ re rs (by unfold fCons; rw [asI_inv e1, bnd_some, asI_inv e2]; rfl) fun vs β1 H1 st1 rs1 r1 => ?_
    cases r1 with
    | cons r1 r2 =>
      cases r2 with
      | cons r2 r3 =>
        cases r3
        cases r1
        cases r2
        exact ⟨i, j, rfl, ⟨(okR_ok hj.1).1, (okR_ok hj.1).2, (okR_ok hj.2).1, (okR_ok hj.2).2⟩, q _ β1 H1 st1 rs1 itOk_rng⟩
  · cases hf⟩
end

/-! ### targets -/
abbrev FG := D → Env → Store → Option (Env × Store)
/-- is: the slots that are stored -/
def RdG (K : PySem.W.Frag) (is : List Nat) (t : TG) (g : FG) : Prop := ∀ (σ : L2.St) (β : Bt) (H : Hp) (env : Env) (S : Store) (d : D) (v : V) (env' : Env) (S' : Store) (Q : L2.St → Hp → Prop), RE K β H env σ → RS K β H S → RD K β H d v →
  g d env S = some (env', S') → (∀ σ' β' H', Step β H β' H' → RS K β' H' S' → RE K β' H' env' σ' → (∀ vs : List Nat, (∀ i ∈ is, i ∈ vs) → wipe σ' vs = wipe σ vs) → Q σ' H') → t v σ H Q
def RdGs (K : PySem.W.Frag) (is : List Nat) (t : TGs) (g : List D → Env → Store → Option (Env × Store)) : Prop := ∀ (σ : L2.St) (β : Bt) (H : Hp) (env : Env) (S : Store) (d : List D) (v : List V) (env' : Env) (S' : Store) (Q : L2.St → Hp → Prop), RE K β H env σ → RS K β H S → RDs K β H d v →
  g d env S = some (env', S') → (∀ σ' β' H', Step β H β' H' → RS K β' H' S' → RE K β' H' env' σ' → (∀ vs : List Nat, (∀ i ∈ is, i ∈ vs) → wipe σ' vs = wipe σ vs) → Q σ' H') → t v σ H Q
def DG (X : Cx) (e : Expr) (is : List Nat) (g : FG) : Prop := ∃ t, PG X e t ∧ RdG X.K is t g
def DGs (X : Cx) (es : List Expr) (is : List Nat) (g : List D → Env → Store → Option (Env × Store)) : Prop := (∃ t, PGs X es t ∧ RdGs X.K is t g) ∧ ∀ ds env S r, g ds env S = some r → ds.length = es.length
def tgN (i : Nat) : FG := fun d env S => some (env.set i (some d), S)
def tgNil : List D → Env → Store → Option (Env × Store) := fun ds env S => match ds with
  | [] => some (env, S)
  | _ => none
def tgCons (f : FG) (g : List D → Env → Store → Option (Env × Store)) : List D → Env → Store → Option (Env × Store) := fun ds env S => match ds with
  | d :: r => bnd (f d env S) fun e S1 => g r e S1
  | _ => none
def tgTup (g : List D → Env → Store → Option (Env × Store)) : FG := fun d env S => match d with
  | .tup ds => g ds env S
  | _ => none
theorem wipe_set {σ : L2.St} {v : Option V} {i : Nat} : ∀ {vs : List Nat}, i ∈ vs → wipe (σ.set i v) vs = wipe σ vs
  | [], h => by cases h
  | j :: vs, h => by
    unfold wipe
    by_cases hj : i ∈ vs
    · rw [wipe_set hj]
    · have e : i = j := by
        rcases List.mem_cons.mp h with e | e
        · exact e
        · exact absurd e hj
      subst e
      apply List.ext_getElem?
      intro k
      by_cases hk : i = k
      · subst hk
        by_cases hl : i < σ.length
        · rw [List.getElem?_set_self (by rw [wipe_length, List.length_set]; exact hl), List.getElem?_set_self (by rw [wipe_length]; exact hl)]
        · rw [List.getElem?_eq_none (by rw [List.length_set, wipe_length, List.length_set]; omega), List.getElem?_eq_none (by rw [List.length_set, wipe_length]; omega)]
      · rw [List.getElem?_set_ne hk, List.getElem?_set_ne hk]
        clear h hj
        induction vs generalizing k with
        | nil => unfold wipe; rw [List.getElem?_set_ne hk]
        | cons j vs ih =>
          unfold wipe
          by_cases hjk : j = k
          · subst hjk
            by_cases hl : j < σ.length
            · rw [List.getElem?_set_self (by rw [wipe_length, List.length_set]; exact hl), List.getElem?_set_self (by rw [wipe_length]; exact hl)]
            · rw [List.getElem?_eq_none (by rw [List.length_set, wipe_length, List.length_set]; omega), List.getElem?_eq_none (by rw [List.length_set, wipe_length]; omega)]
          · rw [List.getElem?_set_ne hjk, List.getElem?_set_ne hjk]
            exact ih k hk
section
variable {X : Cx} {pos : Pos} {e : Expr} {es : List Expr} {is js : List Nat} {f : FG} {g : List D → Env → Store → Option (Env × Store)}
theorem dg_name {i : Nat} {x : Str} (hN : X.N.Nodup) (hi : X.N[i]? = some x := by rfl) (hx : Loc X.env.scope x := by first | exact Or.inl rfl | exact Or.inr rfl) (hf : X.fn x = true ∨ X.env.scope.names.lookup x = some .local := by first | exact .inl rfl | exact .inr rfl | assumption) : DG X (.Name x pos) [i] (tgN i) :=
  ⟨_, pg_name hN hi hx hf, by
  intro σ β H env S d v env' S' Q re rs r hf q
  cases hf
  exact q _ β H .refl rs (re.set r) fun vs h => wipe_set (h i (by simp))⟩
theorem dgs_nil : DGs X [] [] tgNil := ⟨⟨_, pgs_nil, by
  intro σ β H env S d v env' S' Q re rs r hf q
  cases r with
  | nil => cases hf; exact ⟨rfl, q σ β H .refl rs re fun _ _ => rfl⟩
  | cons => cases hf⟩, fun ds env S r h => by
  cases ds with
  | nil => rfl
  | cons => cases h⟩
theorem dgs_cons (h1 : DG X e is f) (h2 : DGs X es js g) (hs : (assignEach (e :: es) X.env).map (·.2) = assign e X.env :: (assignEach es X.env).map (·.2) := by rfl) : DGs X (e :: es) (is ++ js) (tgCons f g) := by
  obtain ⟨t, p1, r1⟩ := h1
  obtain ⟨⟨u, p2, r2⟩, hl⟩ := h2
  refine ⟨⟨_, pgs_cons p1 p2 hs, ?_⟩, fun ds env S r h => by
    cases ds with
    | nil => cases h
    | cons d ds =>
      have h : bnd (f d env S) (fun e S1 => g ds e S1) = some r := h
      obtain ⟨e1, S1, h1, h2⟩ := bnd_inv h
      rw [List.length_cons, List.length_cons, hl ds _ _ _ h2]⟩
  intro σ β H env S d v env' S' Q re rs r hf q
  cases r with
  | nil => cases hf
  | @cons d0 v0 dr vr ra rb =>
    have hf : bnd (f d0 env S) (fun e S1 => g dr e S1) = some (env', S') := hf
    obtain ⟨e1, S1, h1, h2⟩ := bnd_inv hf
    refine ⟨v0, vr, rfl, r1 σ β H env S d0 v0 e1 S1 _ re rs ra h1 fun σ1 β1 H1 st1 rs1 re1 w1 => ?_⟩
    refine r2 σ1 β1 H1 e1 S1 dr vr env' S' _ re1 rs1 (RDs.step st1 _ _ rb) h2 fun σ2 β2 H2 st2 rs2 re2 w2 => ?_
    exact q σ2 β2 H2 (st1.trans st2) rs2 re2 fun vs h => (w2 vs fun i hi => h i (List.mem_append_right _ hi)).trans (w1 vs fun i hi => h i (List.mem_append_left _ hi))
theorem dg_tup {k : Nat} (h : DGs X es is g) (hc : X.calm = true := by rfl) (hn : (assignEach es X.env).length = es.length := by rfl) (hst : (assignEach es X.env).findIdx? (·.1) = none := by rfl) : DG X (.Tuple es k pos) is (tgTup g) := by
  obtain ⟨⟨t, p1, r1⟩, hg⟩ := h
  refine ⟨_, pg_tup hc p1 hn hst, ?_⟩
  intro σ β H env S d v env' S' Q re rs r hf q
  cases d with
  | tup ds =>
    obtain ⟨a, vs, rfl, h1, h2⟩ := r.sqt
    refine ⟨a, vs, rfl, h1, ?_, r1 σ β H env S ds vs env' S' Q re rs h2 hf q⟩
    rw [← h2.length]
    exact hg ds env S _ hf
  | _ => cases hf
end
end Mir

set_option Elab.async false
set_option linter.all false
set_option maxRecDepth 100000
set_option autoImplicit false
set_option maxHeartbeats 1000000
/-! Mir5: for, while, comprehensions, stores, calls, defs. -/
namespace Mir
open PySem L2

/-! ### for -/
def forGo (tg : FG) (body : FS) : List D → Env → Store → Option (Rt × Store)
  | [], env, S => some (.nx env, S)
  | d :: ds, env, S => bnd (tg d env S) fun e1 S1 => bnd (body e1 S1) fun r S2 => match r with
    | .nx e => forGo tg body ds e S2
    | .ct e => forGo tg body ds e S2
    | .bk e => some (.nx e, S2)
    | .rt d => some (.rt d, S2)
def sFor (it : FA) (tg : FG) (body : FS) : FS := fun env S => bnd (it env S) fun ds S1 => forGo tg body ds env S1
section
variable {K : PySem.W.Frag} {wi : TI} {fi : FA} {tg : TG} {g : FG} {tb : TS} {fb : FS} {is : List Nat}
theorem rd_for (hi : RdI K wi fi) (hg : RdG K is tg g) (hb : RdS K tb fb) : RdS K (tFor wi tg tb) (sFor fi g fb) := by
  intro σ β H env S r S' N re rs hf q
  obtain ⟨ds, S1, e1, hf⟩ := bnd_inv hf
  refine hi σ β H env S ds S1 _ re rs e1 fun J β1 H1 st1 rs1 ok => ?_
  refine ⟨fun i m σ' H' => m = ds.length - i ∧ i ≤ ds.length ∧ ∃ β' env' S2, Step β1 H1 β' H' ∧ RS K β' H' S2 ∧ RE K β' H' env' σ' ∧ forGo g fb (ds.drop i) env' S2 = some (r, S'),
    ⟨ds.length, by simp, Nat.zero_le _, β1, env, S1, .refl, rs1, re.step st1, by simpa using hf⟩, ?_⟩
  rintro i m σ2 H2 ⟨rfl, hi', β2, env2, S2, st2, rs2, re2, h2⟩
  obtain ⟨okI, okS⟩ := ok β2 H2 st2
  by_cases hlt : i < ds.length
  · have hd : ds.drop i = ds[i] :: ds.drop (i + 1) := List.drop_eq_getElem_cons hlt
    rw [hd] at h2
    obtain ⟨e3, S3, h3, h2⟩ := bnd_inv (show bnd (g ds[i] env2 S2) _ = some (r, S') from h2)
    obtain ⟨r4, S4, h4, h2⟩ := bnd_inv h2
    obtain ⟨go, yl⟩ := okI i ds[i] (List.getElem?_eq_getElem hlt)
    refine .inr ⟨go, fun σ' H' => ∃ β' env' S5, Step β1 H1 β' H' ∧ RS K β' H' S5 ∧ RE K β' H' env' σ' ∧ forGo g fb (ds.drop (i + 1)) env' S5 = some (r, S'), fun σ' H' ⟨β', env', S5, a1, a2, a3, a4⟩ => ⟨ds.length - (i + 1), by omega, rfl, hlt, β', env', S5, a1, a2, a3, a4⟩, fun x H3 y => ?_⟩
    obtain ⟨st3, rs3, rd3⟩ := yl x H3 y S2 rs2
    refine hg σ2 β2 H3 env2 S2 ds[i] x e3 S3 _ (re2.step st3) rs3 rd3 h3 fun σ4 β4 H4 st4 rs4 re4 _ => ?_
    refine hb σ4 β4 H4 e3 S3 r4 S4 _ re4 rs4 h4 ?_
    have st14 := ((st2.trans st3).trans st4)
    cases r4 with
    | nx e => exact fun σ5 β5 H5 st5 rs5 re5 => ⟨β5, e, S4, st14.trans st5, rs5, re5, h2⟩
    | ct e => exact fun σ5 β5 H5 st5 rs5 re5 => ⟨β5, e, S4, st14.trans st5, rs5, re5, h2⟩
    | bk e =>
      cases h2
      exact fun σ5 β5 H5 st5 rs5 re5 => q σ5 β5 H5 (st1.trans (st14.trans st5)) rs5 re5
    | rt d =>
      cases h2
      exact fun v β5 H5 st5 rs5 re5 => q v β5 H5 (st1.trans (st14.trans st5)) rs5 re5
  · have e : i = ds.length := by omega
    subst e
    rw [List.drop_length] at h2
    cases h2
    exact .inl ⟨okS, q σ2 β2 H2 (st1.trans st2) rs2 re2⟩
end
theorem ds_for {X : Cx} {pos : Pos} {tg iter : Expr} {body : List Stmt} {fi : FA} {g : FG} {fb : FS} {is : List Nat} (hp : PassesOwn (model X.prog X.w) X.A X.env X.xe) (hi : DI X tg iter fi) (hg : DG X tg is g) (hb : DSs X body fb) (hc : X.calm = true := by rfl)
    (hs : ∀ x, foldedSetIterable iter X.env x = pure x := by intro _; rfl) : DS X (.For tg iter body [] pos) (sFor fi g fb) := by
  obtain ⟨wi, p1, r1⟩ := hi
  obtain ⟨t, p2, r2⟩ := hg
  exact ds_of (ps_for hp hc p1 p2 goSs hs) (rd_for r1 r2 hb.run)

/-! ### while -/
def whGo (c : FT) (body : FS) : Nat → Env → Store → Option (Rt × Store)
  | 0, _, _ => none
  | n + 1, env, S => bnd (c env S) fun b S1 => if b then bnd (body env S1) fun r S2 => (match r with
      | .nx e => whGo c body n e S2
      | .ct e => whGo c body n e S2
      | .bk e => some (.nx e, S2)
      | .rt d => some (.rt d, S2))
    else some (.nx env, S1)
def sWhile (n : Nat) (c : FT) (body : FS) : FS := whGo c body n
theorem rd_while {K : PySem.W.Frag} {tc : TT} {tb : TS} {fc : FT} {fb : FS} {n : Nat} (hc : RdT K tc fc) (hb : RdS K tb fb) : RdS K (tWhile tc tb) (sWhile n fc fb) := by
  intro σ β H env S r S' N re rs hf q
  refine ⟨fun m σ' H' => ∃ β' env' S2, Step β H β' H' ∧ RS K β' H' S2 ∧ RE K β' H' env' σ' ∧ whGo fc fb m env' S2 = some (r, S'), ⟨n, β, env, S, .refl, rs, re, hf⟩, ?_⟩
  rintro m σ2 H2 ⟨β2, env2, S2, st2, rs2, re2, h2⟩
  cases m with
  | zero => cases h2
  | succ m =>
    obtain ⟨b, S3, h3, h2⟩ := bnd_inv (show bnd (fc env2 S2) _ = some (r, S') from h2)
    refine hc σ2 β2 H2 env2 S2 b S3 _ re2 rs2 h3 fun β3 H3 st3 rs3 => ?_
    cases b with
    | true =>
      rw [if_pos rfl] at h2 ⊢
      obtain ⟨r4, S4, h4, h2⟩ := bnd_inv h2
      refine ⟨fun σ' H' => ∃ β' env' S2, Step β H β' H' ∧ RS K β' H' S2 ∧ RE K β' H' env' σ' ∧ whGo fc fb m env' S2 = some (r, S'), fun σ' H' h => ⟨m, Nat.lt_succ_self _, h⟩, ?_⟩
      refine hb σ2 β3 H3 env2 S3 r4 S4 _ (re2.step st3) rs3 h4 ?_
      have st := st2.trans st3
      cases r4 with
      | nx e => exact fun σ5 β5 H5 st5 rs5 re5 => ⟨β5, e, S4, st.trans st5, rs5, re5, h2⟩
      | ct e => exact fun σ5 β5 H5 st5 rs5 re5 => ⟨β5, e, S4, st.trans st5, rs5, re5, h2⟩
      | bk e =>
        cases h2
        exact fun σ5 β5 H5 st5 rs5 re5 => q σ5 β5 H5 (st.trans st5) rs5 re5
      | rt d =>
        cases h2
        exact fun v β5 H5 st5 rs5 re5 => q v β5 H5 (st.trans st5) rs5 re5
    | false =>
      rw [if_neg Bool.false_ne_true] at h2 ⊢
      cases h2
      exact q σ2 β3 H3 (st2.trans st3) rs3 (re2.step st3)
theorem ds_while {X : Cx} {pos : Pos} {c : Expr} {body : List Stmt} {fc : FT} {fb : FS} {n : Nat} (hp : PassesOwn (model X.prog X.w) X.A X.env X.xe) (hc : DT X c fc) (hb : DSs X body fb) : DS X (.While c body [] pos) (sWhile n fc fb) :=
  ds_of (ps_while hp goT goSs) (rd_while hc.run hb.run)

/-! ### what is closed -/
def fCl (f : FE) : FE := fun env S => bnd (f env S) fun d S1 => closeV S.length d S1
theorem rd_cl {K : PySem.W.Frag} {t : TE} {f : FE} (h : RdE K t f) : RdE K t (fCl f) := by
  intro σ β H env S d S' Q re rs hf q
  obtain ⟨d1, S1, e1, hf⟩ := bnd_inv hf
  refine h σ β H env S d1 S1 _ re rs e1 fun v β1 H1 st1 rs1 r1 => ?_
  obtain ⟨a, b⟩ := closeV_ok rs1 r1 hf
  exact q v _ H1 (st1.cut rs.dom) a b

/-! ### comprehensions -/
def wipeE (env : Env) : List Nat → Env
  | [] => env
  | v :: vs => (wipeE env vs).set v none
theorem RE.wipe {K : PySem.W.Frag} {β : Bt} {H : Hp} {env : Env} {σ : L2.St} (h : RE K β H env σ) : ∀ vs : List Nat, RE K β H (wipeE env vs) (wipe σ vs)
  | [] => h
  | v :: vs => by
    have ih := RE.wipe h vs
    unfold wipeE L2.wipe
    refine ⟨by simp [ih.len], fun i d e => ?_⟩
    by_cases hv : v = i
    · subst hv
      by_cases hl : v < (wipeE env vs).length
      · rw [List.getElem?_set_self hl] at e; cases e
      · rw [List.getElem?_eq_none (by simpa using hl)] at e; cases e
    · rw [List.getElem?_set_ne hv] at e ⊢
      exact ih.get i d e
def lcGo (tg : FG) (ts : FT) (elt : FE) (w : Env) (n : Nat) : List D → Store → Option Store
  | [], S => some S
  | d :: ds, S => bnd (tg d w S) fun e1 S1 => bnd (ts e1 S1) fun b S2 => if b then bnd (elt e1 S2) fun y S3 => (match S3[n]? with
      | some (.lst acc) => if acc.length < sizeLine then lcGo tg ts elt w n ds (S3.set n (.lst (acc ++ [y]))) else none
      | _ => none)
    else lcGo tg ts elt w n ds S2
/-- the new list a place -/
def fLcM (it : FA) (tg : FG) (ts : FT) (elt : FE) (vs : List Nat) : FE := fun env S => bnd (it env S) fun ds S1 =>
  (lcGo tg ts elt (wipeE env vs) S1.length ds (S1 ++ [.lst []])).map fun S2 => (.loc S1.length, S2)
def fLc (it : FA) (tg : FG) (ts : FT) (elt : FE) (vs : List Nat) : FE := fCl (fLcM it tg ts elt vs)
def tYesF : FT := fun _ S => some (true, S)
section
variable {K : PySem.W.Frag} {wi : TI} {fi : FA} {tg : TG} {g : FG} {tt : TT} {ft : FT} {te : TE} {fe : FE} {is vs : List Nat}
theorem wipe_wipe (σ : L2.St) (vs : List Nat) : L2.wipe (L2.wipe σ vs) vs = L2.wipe σ vs := by
  have h : ∀ (us ws : List Nat), (∀ i ∈ us, i ∈ ws) → L2.wipe (L2.wipe σ us) ws = L2.wipe σ ws := by
    intro us
    induction us with
    | nil => intro ws _; rfl
    | cons u us ih =>
      intro ws h
      show L2.wipe ((L2.wipe σ us).set u none) ws = _
      rw [wipe_set (h u (by simp)), ih ws fun i hi => h i (List.mem_cons_of_mem _ hi)]
  exact h vs vs fun _ h => h
theorem rd_lc (hi : RdI K wi fi) (hg : RdG K is tg g) (ht : RdT K tt ft) (he : RdE K te fe) (hv : ∀ i ∈ is, i ∈ vs) : RdE K (tLc wi tg tt te vs) (fLcM fi g ft fe vs) := by
  intro σ β H env S d S' Q re rs hf q
  obtain ⟨ds, S1, e1, hf⟩ := bnd_inv hf
  obtain ⟨Sf, e2, e3⟩ := Option.map_eq_some_iff.mp hf
  cases e3
  refine hi σ β H env S ds S1 _ re rs e1 fun J β1 H1 st1 rs1 ok D hD => ?_
  have stP : Step β1 H1 (bset β1 S1.length D) (upd H1 D (.lst [])) := .place rs1 hD
  have rsP : RS K (bset β1 S1.length D) (upd H1 D (.lst [])) (S1 ++ [.lst []]) := rs1.place hD (.lst .nil)
  have bP : bset β1 S1.length D S1.length = some D := by unfold bset; rw [if_pos rfl]
  refine ⟨fun i m H' => m = ds.length - i ∧ i ≤ ds.length ∧ ∃ β' S2, Step (bset β1 S1.length D) (upd H1 D (.lst [])) β' H' ∧ RS K β' H' S2 ∧ lcGo g ft fe (wipeE env vs) S1.length (ds.drop i) S2 = some S',
    ⟨ds.length, by simp, Nat.zero_le _, _, _, .refl, rsP, by simpa using e2⟩, ?_⟩
  rintro i m H2 ⟨rfl, hi', β2, S2, st2, rs2, h2⟩
  have st12 := stP.trans st2
  obtain ⟨okI, okS⟩ := ok β2 H2 st12
  by_cases hlt : i < ds.length
  · have hd : ds.drop i = ds[i] :: ds.drop (i + 1) := List.drop_eq_getElem_cons hlt
    rw [hd] at h2
    obtain ⟨e3, S3, h3, h2⟩ := bnd_inv (show bnd (g ds[i] (wipeE env vs) S2) _ = some S' from h2)
    obtain ⟨b, S4, h4, h2⟩ := bnd_inv h2
    obtain ⟨go, yl⟩ := okI i ds[i] (List.getElem?_eq_getElem hlt)
    refine .inr ⟨go, fun H' => ∃ β' S5, Step (bset β1 S1.length D) (upd H1 D (.lst [])) β' H' ∧ RS K β' H' S5 ∧ lcGo g ft fe (wipeE env vs) S1.length (ds.drop (i + 1)) S5 = some S', fun H' ⟨β', S5, a1, a2, a3⟩ => ⟨ds.length - (i + 1), by omega, rfl, hlt, β', S5, a1, a2, a3⟩, fun x H3 y => ?_⟩
    obtain ⟨st3, rs3, rd3⟩ := yl x H3 y S2 rs2
    have reW : RE K β2 H3 (wipeE env vs) (L2.wipe σ vs) := ((re.step st1).wipe vs).step (st12.trans st3)
    refine hg (L2.wipe σ vs) β2 H3 (wipeE env vs) S2 ds[i] x e3 S3 _ reW rs3 rd3 h3 fun σ4 β4 H4 st4 rs4 re4 w4 => ⟨?_, ?_⟩
    · rw [w4 vs hv, wipe_wipe]
    refine ht σ4 β4 H4 e3 S3 b S4 _ re4 rs4 h4 fun β5 H5 st5 rs5 => ?_
    have st25 := ((st2.trans st3).trans st4).trans st5
    cases b with
    | true =>
      rw [if_pos rfl] at h2 ⊢
      obtain ⟨y', S6, h6, h2⟩ := bnd_inv h2
      refine he σ4 β5 H5 e3 S4 y' S6 _ (re4.step st5) rs5 h6 fun v β6 H6 st6 rs6 r6 => ?_
      have st26 := st25.trans st6
      have b6 : β6 S1.length = some D := st26.ext _ _ bP
      split at h2
      · rename_i acc hacc
        split at h2
        · rename_i hl
          obtain ⟨a, u, g1, g2, g3⟩ := rs6.obj _ _ hacc
          rw [b6] at g1
          cases g1
          cases g3 with
          | lst g3 =>
            refine ⟨_, g2, by rw [← g3.length]; exact hl, β6, _, st26.trans (.write b6), rs6.write b6 (.lst (g3.append (.one r6))), h2⟩
        · cases h2
      · cases h2
    | false =>
      rw [if_neg Bool.false_ne_true] at h2 ⊢
      exact ⟨β5, S4, st25, rs5, h2⟩
  · have e : i = ds.length := by omega
    subst e
    rw [List.drop_length] at h2
    cases h2
    exact .inl ⟨okS, q _ β2 H2 (st1.trans st12) rs2 (.loc (st2.ext _ _ bP))⟩
end
section
variable {X : Cx} {elt tg iter : Expr} {ifs : List Expr} {scope : Scope} {own : List (Str × Nat)} {pos : Pos} {fi : FA} {g : FG} {ft : FT} {fe : FE} {is : List Nat}
/-- a clause's tests -/
def DTs (X : Cx) (ifs : List Expr) (f : FT) : Prop := ∃ t, PTs X ifs t ∧ RdT X.K t f
theorem dts_nil : DTs X [] tYesF := ⟨_, pts_nil, by
  intro σ β H env S b S' Q re rs hf q
  cases hf
  exact q β H .refl rs⟩
theorem dts_one {c : Expr} {f : FT} (h : DT X c f) : DTs X [c] f := ⟨_, pts_one goT, h.run⟩
/-- the least reading of several contexts -/
def GoG (I : Type) (Xs : I → Cx) (e : Expr) : TG := fun v σ H Q => ∀ (i : I) (pins : List (Addr × Obj)) (s : Shared) (u : Value), Inv (Xs i) pins σ H s → RelV v u →
  wpAny (model (Xs i).prog (Xs i).w) (Xs i).A (assign e (Xs i).env u) (fun _ s' => ∃ σ' H', Inv (Xs i) pins σ' H' s' ∧ Q σ' H') (Xs i).xe s
abbrev BI := Shared × Hp × Addr × List (Str × Addr) × List Addr
abbrev blkX (X : Cx) (scope : Scope) (i : BI) : Cx := X.blk i.1 i.2.1 scope (compEnvC scope i.2.2.2.1 i.2.2.1 X.env) i.2.2.2.2
def GoTsI (X : Cx) (scope : Scope) (ifs : List Expr) : TT := fun σ H Q => ∀ (i : BI) pins s, Inv (blkX X scope i) pins σ H s →
  wpAny (model X.prog X.w) X.A (forIn ifs true fun c r => if r = true then do let ok ← isTrue c (blkX X scope i).env (eval c (blkX X scope i).env); pure (ForInStep.yield ok) else pure (ForInStep.yield r)) (TP (blkX X scope i) pins σ Q) (blkX X scope i).xe s
def GoEI (X : Cx) (scope : Scope) (e : Expr) : TE := fun σ H Q => ∀ (i : BI) pins s, Inv (blkX X scope i) pins σ H s → wpAny (model X.prog X.w) X.A (eval e (blkX X scope i).env) (EP (blkX X scope i) pins σ Q) (blkX X scope i).xe s
theorem rd_lcX (hN : X.N.Nodup) (hi : DI X tg iter fi) (ok : BlkOk X.N X.env.scope scope own) (hg : ∀ i : BI, DG (blkX X scope i) tg is g) (ht : ∀ i : BI, DTs (blkX X scope i) ifs ft) (he : ∀ i : BI, DE (blkX X scope i) elt fe) (hv : ∀ i ∈ is, i ∈ own.map (·.2)) :
    ∃ (wi : TI) (tG : TG) (tt : TT) (te : TE), PI X tg iter wi ∧ (∀ (s : Shared) (H : Hp) (C : Addr) (cl : List (Str × Addr)) (fp : List Addr), PG (X.blk s H scope (compEnvC scope cl C X.env) fp) tg tG) ∧ (∀ (s : Shared) (H : Hp) (C : Addr) (cl : List (Str × Addr)) (fp : List Addr), PTs (X.blk s H scope (compEnvC scope cl C X.env) fp) ifs tt) ∧
      (∀ (s : Shared) (H : Hp) (C : Addr) (cl : List (Str × Addr)) (fp : List Addr), PE (X.blk s H scope (compEnvC scope cl C X.env) fp) elt te) ∧ RdE X.K (tLc wi tG tt te (own.map (·.2))) (fLcM fi g ft fe (own.map (·.2))) := by
  obtain ⟨wi, p1, r1⟩ := hi
  refine ⟨wi, GoG BI (blkX X scope) tg, GoTsI X scope ifs, GoEI X scope elt, p1, fun s H C cl fp => ⟨fun pins s1 σ H1 v u Q I r h => h (s, H, C, cl, fp) pins s1 u I r⟩, fun s H C cl fp => ⟨fun pins s1 σ H1 Q I h => h (s, H, C, cl, fp) pins s1 I⟩,
    fun s H C cl fp => ⟨fun pins s1 σ H1 Q I h => h (s, H, C, cl, fp) pins s1 I⟩, ?_⟩
  refine rd_lc (is := is) r1 ?_ ?_ ?_ hv
  · intro σ β H env S d v env' S' Q re rs r hf q i pins s u I ru
    obtain ⟨t, p2, r2⟩ := hg i
    exact p2.run pins s σ H v u Q I ru (r2 σ β H env S d v env' S' Q re rs r hf q)
  · intro σ β H env S b S' Q re rs hf q i pins s I
    obtain ⟨t, p2, r2⟩ := ht i
    exact p2.run pins s σ H Q I (r2 σ β H env S b S' Q re rs hf q)
  · intro σ β H env S d S' Q re rs hf q i pins s I
    exact (he i).run σ β H env S d S' Q re rs hf q pins s I
theorem de_lcM (hN : X.N.Nodup) (hi : DI X tg iter fi) (ok : BlkOk X.N X.env.scope scope own) (hg : ∀ i : BI, DG (blkX X scope i) tg is g) (ht : ∀ i : BI, DTs (blkX X scope i) ifs ft) (he : ∀ i : BI, DE (blkX X scope i) elt fe)
    (hv : ∀ i ∈ is, i ∈ own.map (·.2) := by decide) (hc : X.calm = true := by rfl) (hs : ∀ x, foldedSetIterable iter X.env x = pure x := by intro _; rfl) :
    DE X (.ListComp elt [⟨tg, iter, ifs, 0⟩] scope pos) (fLcM fi g ft fe (own.map (·.2))) := by
  obtain ⟨wi, tG, tt, te, p1, p2, p3, p4, r⟩ := rd_lcX hN hi ok hg ht he hv
  exact de_of (pe_lc hc hN p1 ok p2 p3 p4 hs) r
theorem de_lc (hN : X.N.Nodup) (hi : DI X tg iter fi) (ok : BlkOk X.N X.env.scope scope own) (hg : ∀ i : BI, DG (blkX X scope i) tg is g) (ht : ∀ i : BI, DTs (blkX X scope i) ifs ft) (he : ∀ i : BI, DE (blkX X scope i) elt fe)
    (hv : ∀ i ∈ is, i ∈ own.map (·.2) := by decide) (hc : X.calm = true := by rfl) (hs : ∀ x, foldedSetIterable iter X.env x = pure x := by intro _; rfl) :
    DE X (.ListComp elt [⟨tg, iter, ifs, 0⟩] scope pos) (fLc fi g ft fe (own.map (·.2))) := by
  obtain ⟨wi, tG, tt, te, p1, p2, p3, p4, r⟩ := rd_lcX hN hi ok hg ht he hv
  exact de_of (pe_lc hc hN p1 ok p2 p3 p4 hs) (rd_cl r)
/-- name = [..] on one line -/
theorem ds_setLcM {j : Nat} {y : Str} {py spos : Pos} (hN : X.N.Nodup) (hi : DI X tg iter fi) (ok : BlkOk X.N X.env.scope scope own) (hg : ∀ i : BI, DG (blkX X scope i) tg is g) (ht : ∀ i : BI, DTs (blkX X scope i) ifs ft) (he : ∀ i : BI, DE (blkX X scope i) elt fe)
    (hsw : swapsWith (.ListComp elt [⟨tg, iter, ifs, 0⟩] scope pos) (some (.Name y py)) spos.line X.env = pure true) (hy : X.N[j]? = some y := by rfl) (hyl : X.env.scope.names.lookup y = some .local := by rfl)
    (hv : ∀ i ∈ is, i ∈ own.map (·.2) := by decide) (hc : X.calm = true := by rfl) (hs : ∀ x, foldedSetIterable iter X.env x = pure x := by intro _; rfl) :
    DS X (.Assign [.Name y py] (.ListComp elt [⟨tg, iter, ifs, 0⟩] scope pos) spos) (sSet j (fLcM fi g ft fe (own.map (·.2)))) := by
  obtain ⟨wi, tG, tt, te, p1, p2, p3, p4, r⟩ := rd_lcX hN hi ok hg ht he hv
  refine ds_of (ps_setLc hc hN hy hyl hsw p1 ok p2 p3 p4 hs) ?_
  intro σ β H env S d S' N re rs hf q
  obtain ⟨x, S1, e1, hf⟩ := bnd_inv hf
  cases hf
  exact r σ β H env S x S' _ re rs e1 fun v β1 H1 st1 rs1 r1 => q _ β1 H1 st1 rs1 ((re.step st1).set r1)
theorem ds_setLc {j : Nat} {y : Str} {py spos : Pos} (hN : X.N.Nodup) (hi : DI X tg iter fi) (ok : BlkOk X.N X.env.scope scope own) (hg : ∀ i : BI, DG (blkX X scope i) tg is g) (ht : ∀ i : BI, DTs (blkX X scope i) ifs ft) (he : ∀ i : BI, DE (blkX X scope i) elt fe)
    (hsw : swapsWith (.ListComp elt [⟨tg, iter, ifs, 0⟩] scope pos) (some (.Name y py)) spos.line X.env = pure true) (hy : X.N[j]? = some y := by rfl) (hyl : X.env.scope.names.lookup y = some .local := by rfl)
    (hv : ∀ i ∈ is, i ∈ own.map (·.2) := by decide) (hc : X.calm = true := by rfl) (hs : ∀ x, foldedSetIterable iter X.env x = pure x := by intro _; rfl) :
    DS X (.Assign [.Name y py] (.ListComp elt [⟨tg, iter, ifs, 0⟩] scope pos) spos) (sSet j (fLc fi g ft fe (own.map (·.2)))) := by
  obtain ⟨wi, tG, tt, te, p1, p2, p3, p4, r⟩ := rd_lcX hN hi ok hg ht he hv
  refine ds_of (ps_setLc hc hN hy hyl hsw p1 ok p2 p3 p4 hs) ?_
  intro σ β H env S d S' N re rs hf q
  obtain ⟨x, S1, e1, hf⟩ := bnd_inv hf
  cases hf
  exact rd_cl r σ β H env S x S' _ re rs e1 fun v β1 H1 st1 rs1 r1 => q _ β1 H1 st1 rs1 ((re.step st1).set r1)
end

/-! ### several names at once -/
def sTup (g : FG) (f : FE) : FS := fun env S => bnd (f env S) fun d S1 => bnd (g d env S1) fun e S2 => some (.nx e, S2)
def sPar (i j : Nat) (f : FA) : FS := fun env S => bnd (f env S) fun ds S1 => match ds with
  | [a, b] => some (.nx ((env.set i (some a)).set j (some b)), S1)
  | _ => none
section
variable {X : Cx} {pos : Pos} {e tg : Expr} {f : FE} {g : FG} {is : List Nat}
theorem ds_asg (he : DE X e f) (hg : DG X tg is g) (hs : swapsWithSole [tg] e pos.line X.env = pure false := by rfl) (hw : swappedStores [tg] e X.env = pure none := by rfl)
    (h1 : (assignEach [tg] X.env).map (·.2) = [assign tg X.env] := by rfl) : DS X (.Assign [tg] e pos) (sTup g f) := by
  obtain ⟨t, p, r⟩ := hg
  refine ds_of (ps_asg goE p hs hw h1) ?_
  intro σ β H env S d S' N re rs hf q
  obtain ⟨x, S1, e1, hf⟩ := bnd_inv hf
  obtain ⟨e2, S2, e3, hf⟩ := bnd_inv hf
  cases hf
  refine he.run σ β H env S x S1 _ re rs e1 fun v β1 H1 st1 rs1 r1 => ?_
  exact r σ β1 H1 env S1 x v _ S' _ (re.step st1) rs1 r1 e3 fun σ2 β2 H2 st2 rs2 re2 _ => q σ2 β2 H2 (st1.trans st2) rs2 re2
theorem ds_par {i j : Nat} {x y : Str} {a b : Expr} {fa : FA} {px py pt : Pos} {kt k2 : Nat} {pt2 : Pos} (hN : X.N.Nodup) (ha : DA X [a, b] fa) (hw : swappedStores [.Tuple [.Name x px, .Name y py] kt pt] (.Tuple [a, b] k2 pt2) X.env = pure (some [x, y]) := by rfl)
    (hi : X.N[i]? = some x := by rfl) (hj : X.N[j]? = some y := by rfl) (hij : i ≠ j := by decide) (hx : X.env.scope.names.lookup x = some .local := by rfl) (hy : X.env.scope.names.lookup y = some .local := by rfl) (hc : X.calm = true := by rfl)
    (hs : swapsWithSole [.Tuple [.Name x px, .Name y py] kt pt] (.Tuple [a, b] k2 pt2) pos.line X.env = pure false := by rfl) : DS X (.Assign [.Tuple [.Name x px, .Name y py] kt pt] (.Tuple [a, b] k2 pt2) pos) (sPar i j fa) := by
  refine ds_of (ps_par hc hN hi hj hij hx hy goA hw hs) ?_
  intro σ β H env S d S' N re rs hf q
  obtain ⟨ds, S1, e1, hf⟩ := bnd_inv hf
  refine ha.run σ β H env S ds S1 _ re rs e1 fun vs β1 H1 st1 rs1 r1 => ?_
  split at hf
  · cases hf
    cases r1 with
    | cons r1 r2 =>
      cases r2 with
      | cons r2 r3 =>
        cases r3
        exact ⟨_, _, rfl, q _ β1 H1 st1 rs1 (((re.step st1).set r1).set r2)⟩
  · cases hf
end

/-! ### x op= e, o[i] = e, o[i] op= e -/
def sAug (i : Nat) (o : F2) (f : FE) : FS := fun env S => match env[i]? with
  | some (some x) => bnd (f env S) fun y S1 => bnd (o x y S1) fun z S2 => some (.nx (env.set i (some z)), S2)
  | _ => none
def ixSet (S : Store) (o i v : D) : Option Store := match o, i with
  | .loc n, .int k => (match S[n]? with
    | some (.lst ds) => (ixN ds.length k).map fun j => S.set n (.lst (ds.set j v))
    | _ => none)
  | _, _ => none
def sSub (fe fo fi : FE) : FS := fun env S => bnd (fe env S) fun v S1 => bnd (fo env S1) fun o S2 => bnd (fi env S2) fun i S3 => (ixSet S3 o i v).map fun S4 => (.nx env, S4)
def sAugS (fo fi : FE) (op : F2) (fe : FE) : FS := fun env S => bnd (fo env S) fun o S1 => bnd (fi env S1) fun i S2 => bnd (oIx o i S2) fun x S3 => bnd (fe env S3) fun y S4 => bnd (op x y S4) fun z S5 => (ixSet S5 o i z).map fun S6 => (.nx env, S6)
section
variable {X : Cx} {K : PySem.W.Frag} {β : Bt} {H : Hp} {S S' : Store} {pos tpos : Pos} {e o i : Expr} {fe fo fi : FE} {op2 : F2} {r : R2}
theorem rd_set {x y z : D} {ov iv v : V} {Q : Hp → Prop} (rs : RS K β H S) (r1 : RD K β H x ov) (r2 : RD K β H y iv) (r3 : RD K β H z v) (h : ixSet S x y z = some S') (q : ∀ H', Step β H β H' → RS K β H' S' → Q H') : rSetL ov iv v H Q := by
  unfold ixSet at h
  split at h
  · rename_i n k
    split at h
    · rename_i ds hd
      obtain ⟨j, e1, e2⟩ := Option.map_eq_some_iff.mp h
      subst e2
      obtain ⟨a, u, g1, g2, g3⟩ := rs.obj _ _ hd
      cases r1 with
      | loc hl =>
        rw [g1] at hl
        cases hl
        cases r2
        cases g3 with
        | lst g3 =>
          exact ⟨a, _, k, j, rfl, rfl, g2, by rw [← g3.length]; exact e1, q _ (.write g1) (rs.write g1 (.lst (g3.set r3 j)))⟩
    · cases h
  · cases h
theorem ds_aug {j : Nat} {x : Str} {op : Operator} {pos' : Pos} (ho : OpR X (inplaceOp op) r) (hr : Rd2 X.K r op2) (hN : X.N.Nodup) (he : DE X e fe) (hi : X.N[j]? = some x := by rfl) (hx : Loc X.env.scope x := by first | exact Or.inl rfl | exact Or.inr rfl) (hf : X.fn x = true ∨ X.env.scope.names.lookup x = some .local := by first | exact .inl rfl | exact .inr rfl | assumption) :
    DS X (.AugAssign (.Name x pos') op e pos) (sAug j op2 fe) := by
  refine ds_of (ps_aug (ti := r) hN hi hx goE (fun pins s σ H x y v u Q I rx ry h => ho pins s σ H x y v u Q I rx ry h) hf) ?_
  intro σ β H env S d S' N re rs hf q
  unfold sAug at hf
  split at hf
  · rename_i x hx
    obtain ⟨y, S1, e1, hf⟩ := bnd_inv hf
    obtain ⟨z, S2, e2, hf⟩ := bnd_inv hf
    cases hf
    obtain ⟨v, hv, rv⟩ := re.get _ _ hx
    refine ⟨v, hv, he.run σ β H env S y S1 _ re rs e1 fun w β1 H1 st1 rs1 r1 => ?_⟩
    refine hr β1 H1 S1 x y v w z S' _ rs1 (RD.step st1 _ _ rv) r1 e2 fun z' β2 H2 st2 rs2 r2 => ?_
    exact q _ β2 H2 (st1.trans st2) rs2 (((re.step st1).step st2).set r2)
  · cases hf
theorem ds_sub (he : DE X e fe) (ho : DE X o fo) (hi : DE X i fi) (hs : swapsWithSole [.Subscript o i tpos] e pos.line X.env = pure false := by rfl) (hw : swappedStores [.Subscript o i tpos] e X.env = pure none := by rfl)
    (h1 : (assignEach [.Subscript o i tpos] X.env).map (·.2) = [assign (.Subscript o i tpos) X.env] := by rfl)
    (ha : ∀ v, assign (.Subscript o i tpos) X.env v = (do
      let ov ← holding [v] (eval o X.env)
      let iv ← holding [v, ov] (eval i X.env)
      standAt tpos
      holding [v, ov, iv] (setItem ov iv v)
      release [v, ov, iv] []) := by intro _; rfl) : DS X (.Assign [.Subscript o i tpos] e pos) (sSub fe fo fi) := by
  refine ds_of (ps_asg goE (pg_sub goE goE set_list ha) hs hw h1) ?_
  intro σ β H env S d S' N re rs hf q
  obtain ⟨x, S1, e1, hf⟩ := bnd_inv hf
  obtain ⟨y, S2, e2, hf⟩ := bnd_inv hf
  obtain ⟨z, S3, e3, hf⟩ := bnd_inv hf
  obtain ⟨S4, e4, e5⟩ := Option.map_eq_some_iff.mp hf
  cases e5
  refine he.run σ β H env S x S1 _ re rs e1 fun v β1 H1 st1 rs1 r1 => ?_
  refine ho.run σ β1 H1 env S1 y S2 _ (re.step st1) rs1 e2 fun ov β2 H2 st2 rs2 r2 => ?_
  refine hi.run σ β2 H2 env S2 z S3 _ ((re.step st1).step st2) rs2 e3 fun iv β3 H3 st3 rs3 r3 => ?_
  have st := (st1.trans st2).trans st3
  exact rd_set rs3 (RD.step st3 _ _ r2) r3 (RD.step st3 _ _ (RD.step st2 _ _ r1)) e4 fun H4 st4 rs4 => q _ β3 H4 (st.trans st4) rs4 (re.step (st.trans st4))
end
end Mir

set_option Elab.async false
set_option linter.all false
set_option maxRecDepth 100000
set_option autoImplicit false
set_option maxHeartbeats 1000000
/-! Mir6: calls, defs, the head. -/
namespace Mir
open PySem L2

/-! ### a def and what it is worth -/
def spF (K : PySem.W.Frag) (F : FF) (vs : List V) (H : Hp) (Q : VK) : Prop := ∃ (β : Bt) (S : Store) (ds : List D) (d : D) (S' : Store), RS K β H S ∧ RDs K β H ds vs ∧ F ds S = some (d, S') ∧ PostE K β H S' d Q
/-- the def at f is worth F; where nothing is being written out (repr) -/
structure FnG (P : Program) (w : World) (K : PySem.W.Frag) (mg : Str → Option Value) (base : Heap) (k : Nat) (f : Addr) (fd : FuncData) (ps : List Str) (F : FF) : Prop where
  len : ∀ ds S r, F ds S = some r → ds.length = ps.length
  run : ∀ (A : Around) (out : List PySem.Env) (s : Shared) (H : Hp) (args : Args) (us : List Value) (vs : List V) (Q : VK), Room k A → A.guards = some [] → Env0 P w K mg base A out s H → BindsTo s fd args (ps.zip us) → Vals vs us → spF K F vs H Q →
    codeAny (model P w) A (.call (.ref f) args) (CR CX0 out P w H s Q E0) s
theorem FnG.mono {P : Program} {w : World} {K : PySem.W.Frag} {mg : Str → Option Value} {base : Heap} {j k : Nat} {f : Addr} {fd : FuncData} {ps : List Str} {F : FF} (h : FnG P w K mg base j f fd ps F) (hj : j ≤ k) : FnG P w K mg base k f fd ps F :=
  ⟨h.len, fun A out s H args us vs Q hr => h.run A out s H args us vs Q (hr.mono hj)⟩
/-- a def of the module that may be called: its name, its worth -/
structure Def (P : Program) (w : World) (K : PySem.W.Frag) (mg : Str → Option Value) (base : Heap) (k : Nat) (x : Str) (f : Addr) (F : FF) : Prop where
  ex : ∃ (fd : FuncData) (ps : List Str), FnG P w K mg base k f fd ps F ∧ PySem.W.keepIn K (.ref f) = true ∧ Binds K fd ps []
  at_ : mg x = some (.ref f)
theorem Def.mono {P : Program} {w : World} {K : PySem.W.Frag} {mg : Str → Option Value} {base : Heap} {j k : Nat} {x : Str} {f : Addr} {F : FF} (h : Def P w K mg base j x f F) (hj : j ≤ k) : Def P w K mg base k x f F := by
  obtain ⟨⟨fd, ps, h1, h2, h3⟩, h4⟩ := h
  exact ⟨⟨fd, ps, h1.mono hj, h2, h3⟩, h4⟩
/-- what a body may lean on -/
structure Up (X : Cx) (k : Nat) : Prop where
  room : Room k X.A
  quiet : X.A.guards = some []
theorem Up.mono {X : Cx} {j k : Nat} (h : Up X k) (hj : j ≤ k) : Up X j := ⟨h.room.mono hj, h.quiet⟩
theorem Up.blk {X : Cx} {k : Nat} (h : Up X k) (scope : Scope) (i : BI) : Up (blkX X scope i) k := ⟨h.room, h.quiet⟩

def fCall (F : FF) (g : FA) : FE := fun env S => bnd (g env S) fun xs S1 => F xs S1
section
variable {X : Cx} {k : Nat} {x : Str} {f : Addr} {F : FF} {p pos : Pos} {e : Expr} {es : List Expr} {g : FA}
theorem run_g {fd : FuncData} {ps : List Str} (h : FnG X.prog X.w X.K X.mg X.base k f fd ps F) (hu : Up X k) (hb : Binds X.K fd ps []) {pins : List (Addr × Obj)} {σ : L2.St} {H : Hp} {s : Shared} {Q : VK} {us : List Value} {vs : List V}
    (I : Inv X pins σ H s) (r : Vals vs us) (q : spF X.K F vs H Q) : wpAny (model X.prog X.w) X.A (call (.ref f) us) (EP X pins σ Q) X.xe s := by
  have hl : us.length = ps.length := by
    obtain ⟨β, S, ds, d, S', _, r2, e, _⟩ := id q
    rw [← r.length, ← r2.length]
    exact h.len _ _ _ e
  have hb2 := hb s us I.kIn (by rw [List.append_nil]; exact hl)
  rw [List.append_nil] at hb2
  refine wpAny_call (codeAny_mono (h.run X.A X.stack s H ⟨us, []⟩ us vs Q hu.room hu.quiet I.env0 hb2 r q) fun r s' hq => ?_)
  cases r with
  | error e => exact False.elim hq
  | ok fl =>
    cases fl with
    | ret u => exact I.after hq
    | next => exact False.elim hq
    | brk => exact False.elim hq
    | cont => exact False.elim hq
/-- f(..), f a def of the module -/
theorem de_call (D0 : Def X.prog X.w X.K X.mg X.base k x f F) (hu : Up X k) (ha : DA X (e :: es) g) (hg : Gl X x := by rfl) (hdb : (x == ("__debug__" : Str)) = false := by decide)
    (he : starEach (e :: es) X.env = (false, eval e X.env) :: starEach es X.env := by first | exact st_cons rfl | rfl) (hpl : (backTo pos (starEach es X.env)).any (·.1) = false := by first | exact st_plain rfl | rfl) : DE X (.Call (.Name x p) (e :: es) [] pos) (fCall F g) := by
  refine ⟨?_⟩; intro σ β H env S d S' Q re rs hf q pins s I
  obtain ⟨xs, S1, e1, hf⟩ := bnd_inv hf
  obtain ⟨⟨fd, ps, h1, h2, h3⟩, h4⟩ := D0
  refine wpAny_Call_Name_kw (ld_glob I hg h4 ?_ hdb)
  refine PySem.W.callWith_K (h₀ := X.base) I.ok.mod.kin h2 (thn (goA.run pos pins s σ H _ I (ha.run σ β H env S xs S1 (fun vs H1 => spF X.K F vs H1 Q) re rs e1 fun vs β1 H1 st1 rs1 r1 => ⟨β1, S1, xs, d, S', rs1, r1, hf, q.step st1⟩)) fun us s1 ⟨vs, H1, I1, r, q1⟩ => ⟨I1.kIn, ?_⟩) he hpl
  exact run_g h1 hu h3 I1 r q1
theorem de_call0 (D0 : Def X.prog X.w X.K X.mg X.base k x f F) (hu : Up X k) (hg : Gl X x := by rfl) (hdb : (x == ("__debug__" : Str)) = false := by decide) : DE X (.Call (.Name x p) [] [] pos) (fCall F fNil) := by
  refine ⟨?_⟩; intro σ β H env S d S' Q re rs hf q pins s I
  obtain ⟨⟨fd, ps, h1, h2, h3⟩, h4⟩ := D0
  refine wpAny_Call_Name_kw (ld_glob I hg h4 ?_ hdb)
  exact PySem.W.callWith_K0 I.kIn h2 (run_g h1 hu h3 I .nil ⟨β, S, [], d, S', rs, .nil, hf, q⟩)
/-- v(..), v a local that holds a def: tab tells the worth of each that may stand there -/
def fCallV (tab : Addr → Option FF) (i : Nat) (g : FA) : FE := fun env S => match env[i]? with
  | some (some (.raw (.ref a))) => (match tab a with
    | some F => bnd (g env S) fun xs S1 => F xs S1
    | none => none)
  | _ => none
theorem de_callV {i : Nat} {tab : Addr → Option FF} (ht : ∀ a F, tab a = some F → ∃ (fd : FuncData) (ps : List Str), FnG X.prog X.w X.K X.mg X.base k a fd ps F ∧ PySem.W.keepIn X.K (.ref a) = true ∧ Binds X.K fd ps []) (hu : Up X k) (ha : DA X (e :: es) g)
    (hN : X.N[i]? = some x := by rfl) (hv : Vis X.env.scope x := by first | exact Or.inl rfl | exact Or.inr (Or.inl rfl) | exact Or.inr (Or.inr rfl)) (hdb : (x == ("__debug__" : Str)) = false := by decide) (hcd : (x == ("__classdict__" : Str)) = false := by decide)
    (he : starEach (e :: es) X.env = (false, eval e X.env) :: starEach es X.env := by first | exact st_cons rfl | rfl) (hpl : (backTo pos (starEach es X.env)).any (·.1) = false := by first | exact st_plain rfl | rfl) : DE X (.Call (.Name x p) (e :: es) [] pos) (fCallV tab i g) := by
  refine ⟨?_⟩; intro σ β H env S d S' Q re rs hf q pins s I
  unfold fCallV at hf
  split at hf
  · rename_i a ha'
    split at hf
    · rename_i F0 hF
      obtain ⟨xs, S1, e1, hf⟩ := bnd_inv hf
      obtain ⟨fd, ps, h1, h2, h3⟩ := ht a F0 hF
      obtain ⟨v, hv2, rv⟩ := re.get _ _ ha'
      cases rv
      refine wpAny_Call_Name_kw (thn ((pe_var (pos := p) hN hv hdb hcd).run pins s σ H (fun v H1 => v = .ref a ∧ H1 = H) I ⟨.ref a, hv2, rfl, rfl⟩) fun u s1 ⟨v, H1, I1, r1, q1⟩ => ?_)
      obtain ⟨rfl, rfl⟩ := q1
      cases r1
      refine PySem.W.callWith_K (h₀ := X.base) I.ok.mod.kin h2 (thn (goA.run pos pins s1 σ _ _ I1 (ha.run σ β _ env S xs S1 (fun vs H1 => spF X.K F0 vs H1 Q) re rs e1 fun vs β1 H1 st1 rs1 r1 => ⟨β1, S1, xs, d, S', rs1, r1, hf, q.step st1⟩)) fun us s2 ⟨vs, H2, I2, r, q2⟩ => ⟨I2.kIn, ?_⟩) he hpl
      exact run_g h1 hu h3 I2 r q2
    · cases hf
  · cases hf
end

/-! ### a def's worth from its body's -/
def fnF (n m : Nat) (g : FS) : FF := fun ds S => if ds.length = m then (match g (ds.map some ++ List.replicate (n - m) none) S with
    | some (.rt d, S') => closeV S.length d S'
    | some (.nx _, S') => closeV S.length .non S'
    | _ => none)
  else none
theorem RE.start {K : PySem.W.Frag} {β : Bt} {H : Hp} {ds : List D} {vs : List V} {N : List Str} {n m : Nat} (h : RDs K β H ds vs) (hn : n = N.length) (hm : ds.length = m) : RE K β H (ds.map some ++ List.replicate (n - m) none) (L2.start N vs) := by
  subst hn hm
  unfold L2.start
  refine ⟨by simp [h.length], fun i d e => ?_⟩
  by_cases hi : i < ds.length
  · rw [List.getElem?_append_left (by simpa using hi), List.getElem?_map] at e
    obtain ⟨d', hd, e2⟩ := Option.map_eq_some_iff.mp e
    cases e2
    obtain ⟨v, hv, r⟩ := h.get hd
    exact ⟨v, by rw [List.getElem?_append_left (by rw [List.length_map, ← h.length]; exact hi), List.getElem?_map, hv]; rfl, r⟩
  · rw [List.getElem?_append_right (by simpa using hi), List.getElem?_replicate] at e
    split at e <;> cases e
section
variable {P : Program} {w : World} {K : PySem.W.Frag} {mg : Str → Option Value} {base : Heap}
theorem fnG_of {x qual : Str} {st : Stmt} {f : Addr} {fd : FuncData} {N ps : List Str} {k n m : Nat} {g : FS} (F0 : Fun K x qual st f fd) (S0 : FnScope N ps (defScope st)) (hn : n = N.length) (hm : m = ps.length)
    (body : ∀ X : Cx, X.prog = P → X.w = w → X.K = K → X.mg = mg → X.base = base → X.N = N → X.env.scope = defScope st → X.calm = true → (∀ y, X.fn y = true) → PassesOwn (model X.prog X.w) X.A X.env X.xe → Up X k → DSs X (defBody st) g) : FnG P w K mg base (k + 1) f fd ps (fnF n m g) := by
  obtain ⟨oc, od, kV, doc, pm, an, cdv, ct, osl, rfl, lk, hcd⟩ := F0.ex
  refine ⟨fun ds S r e => ?_, fun A out s H args us vs Q hr hq e0 hb r hsp => ?_⟩
  · unfold fnF at e
    split at e
    · rename_i h
      exact h.trans hm
    · cases e
  · obtain ⟨β, S, ds, d, S', rs, rd, hf, q⟩ := hsp
    have hlen : ds.length = m := Classical.byContradiction fun z => by
      unfold fnF at hf
      rw [if_neg z] at hf
      cases hf
    unfold fnF at hf
    rw [if_pos hlen] at hf
    have hl : vs.length = ps.length := by rw [← rd.length, hlen, hm]
    have KX : K.In s.heap := e0.mod.kin.keeps fun b o e => (e0.bs b o e).1
    have lim : s.heap.NoLimit := e0.mod.nolimit.keeps fun b o e => (e0.bs b o e).1
    have hkind : ∀ y ∈ ps.zip us, (defScope st).names.lookup y.1 = some .local ∨ ((defScope st).names.lookup y.1 = some .cell ∧ ((cellsFrom (s.heap.objs.size + 1) (defScope st).names []).lookup y.1).isSome = true) := by
      rintro ⟨n, v⟩ hy
      exact (S0.par n (List.of_mem_zip hy).1).imp id fun c => ⟨c, PySem.W.cellsFrom_some _ _ _ (.inl c)⟩
    refine codeAny_call_function hr.depth (KX _ _ lk) rfl S0.co S0.gen rfl (PySem.W.codeRec_of KX hcd) (hb _ _ _ _ ?_)
    refine wpAny_newFunctionEnv_cells S0.kind hkind fun env he s1 x => ?_
    subst he
    refine ⟨lim.keeps x.toInCall.keep, codeAny_func ?_⟩
    have I := (inv_start (CX := CX0) (E := E0) S0 hr.hd e0 hl r x : Inv (cxOf CX0 P w K mg base N qual (defScope st) f cdv A out s H E0) [] (L2.start N vs) H s1)
    have B := body (cxOf CX0 P w K mg base N qual (defScope st) f cdv A out s H E0).nox rfl rfl rfl rfl rfl rfl rfl rfl (fun _ => rfl) PassesOwn.never ⟨hr.deeper _, hq⟩
    have fin : ∀ {s' : Shared} {σ' : L2.St} {H' : Hp} {v : V} {u : Value}, Inv (cxOf CX0 P w K mg base N qual (defScope st) f cdv A out s H E0) [] σ' H' s' → RelV v u → Q v H' → CE out P w H s Q u s' :=
      fun {s' σ' H' v u} J rv q => ⟨v, H', J.os, J.bare, J.base, J.hok, rv, q⟩
    split at hf
    · rename_i d1 S1 hg
      have go := B.run (L2.start N vs) β H _ S (.rt d1) S1 { nx := fun _ H' => Q .non H', rt := Q } (RE.start rd hn hlen) rs hg (fun v β1 H1 st1 rs1 r1 => by
        obtain ⟨a, b⟩ := closeV_ok rs1 r1 hf
        exact q v _ H1 (st1.cut rs.dom) a b)
      refine wpAny_mono (goSs.nox.run [] s1 (L2.start N vs) H _ I go) (fun fl s' hs => ?_) fun e s' hs => hs
      cases fl with
      | ret u =>
        obtain ⟨v, σ', H', J, rv, q⟩ := hs
        exact fin J rv q
      | next =>
        obtain ⟨σ', H', J, q⟩ := hs
        exact fin (v := V.non) (u := Value.none) J rfl q
      | brk =>
        obtain ⟨_, _, _, z⟩ := hs
        exact False.elim z
      | cont =>
        obtain ⟨_, _, _, z⟩ := hs
        exact False.elim z
    · rename_i e1 S1 hg
      have go := B.run (L2.start N vs) β H _ S (.nx e1) S1 { nx := fun _ H' => Q .non H', rt := Q } (RE.start rd hn hlen) rs hg (fun σ1 β1 H1 st1 rs1 re1 => by
        obtain ⟨a, b⟩ := closeV_ok rs1 (.non : RD K β1 H1 .non .non) hf
        exact q .non _ H1 (st1.cut rs.dom) a b)
      refine wpAny_mono (goSs.nox.run [] s1 (L2.start N vs) H _ I go) (fun fl s' hs => ?_) fun e s' hs => hs
      cases fl with
      | ret u =>
        obtain ⟨v, σ', H', J, rv, q⟩ := hs
        exact fin J rv q
      | next =>
        obtain ⟨σ', H', J, q⟩ := hs
        exact fin (v := V.non) (u := Value.none) J rfl q
      | brk =>
        obtain ⟨_, _, _, z⟩ := hs
        exact False.elim z
      | cont =>
        obtain ⟨_, _, _, z⟩ := hs
        exact False.elim z
    · cases hf
end
end Mir

set_option Elab.async false
set_option linter.all false
set_option maxRecDepth 100000
set_option autoImplicit false
set_option maxHeartbeats 1000000
/-! Mir7: built-ins by values. -/
namespace Mir
open PySem L2

section
variable {X : Cx} {x : Str} {p pos : Pos} {e : Expr} {es : List Expr} {g : FA} {id T : String} {r : List V → Hp → VK → Prop} {o : FF}
theorem rd_cb {K : PySem.W.Frag} {t : TA} (hr : RdN K r o) (h : RdA K t g) : RdE K (tCB r t) (fCall o g) := by
  intro σ β H env S d S' Q re rs hf q
  obtain ⟨xs, S1, e1, hf⟩ := bnd_inv hf
  refine h σ β H env S xs S1 _ re rs e1 fun vs β1 H1 st1 rs1 r1 => ?_
  exact hr β1 H1 S1 xs vs d S' Q rs1 r1 hf (q.step st1)
theorem de_callB (hc : CallR X (.builtin id) r) (hr : RdN X.K r o) (hm : X.mg x = none) (hv : bootBuiltins x = some (.builtin id)) (ha : DA X (e :: es) g) (hg : Gl X x := by rfl) (hn : x ≠ "__name__" := by decide) (hdb : (x == ("__debug__" : Str)) = false := by decide)
    (he : starEach (e :: es) X.env = (false, eval e X.env) :: starEach es X.env := by first | exact st_cons rfl | rfl) (hpl : (backTo pos (starEach es X.env)).any (·.1) = false := by first | exact st_plain rfl | rfl) : DE X (.Call (.Name x p) (e :: es) [] pos) (fCall o g) := de_of (pe_callB hc hg hm hv goA hn hdb he hpl) (rd_cb hr ha.run)
theorem de_callTy (hc : CallR X (.type T) r) (hr : RdN X.K r o) (hm : X.mg x = none) (hv : bootBuiltins x = some (.type T)) (ha : DA X (e :: es) g) (hg : Gl X x := by rfl) (hn : x ≠ "__name__" := by decide) (hdb : (x == ("__debug__" : Str)) = false := by decide)
    (he : starEach (e :: es) X.env = (false, eval e X.env) :: starEach es X.env := by first | exact st_cons rfl | rfl) (hpl : (backTo pos (starEach es X.env)).any (·.1) = false := by first | exact st_plain rfl | rfl) : DE X (.Call (.Name x p) (e :: es) [] pos) (fCall o g) := de_of (pe_callTy hc hg hm hv goA hn hdb he hpl) (rd_cb hr ha.run)
end

/-! ### what they are worth -/
def bAbs : FF := fun xs S => match xs with
  | [.int i] => some (.int (if i < 0 then -i else i), S)
  | _ => none
def bInt : FF := fun xs S => match xs with
  | [.int i] => some (.int i, S)
  | [.bl b] => some (.int (if b then 1 else 0), S)
  | _ => none
def bLen : FF := fun xs S => match xs with
  | [.str y] => if y.length ≤ sizeLine then some (.int y.length, S) else none
  | [x] => (seqOf S x).map fun ds => (.int ds.length, S)
  | _ => none
def asBls : List D → Option (List Bool)
  | [] => some []
  | .bl b :: ds => (asBls ds).map fun bs => b :: bs
  | _ => none
def asInts : List D → Option (List Int)
  | [] => some []
  | .int b :: ds => (asInts ds).map fun bs => b :: bs
  | _ => none
def asStrs : List D → Option (List Str)
  | [] => some []
  | .str b :: ds => (asStrs ds).map fun bs => b :: bs
  | _ => none
def bAll : FF := fun xs S => match xs with
  | [x] => ((lsOf S x).bind asBls).map fun bs => (.bl (bs.all id), S)
  | _ => none
def bAny : FF := fun xs S => match xs with
  | [x] => ((lsOf S x).bind asBls).map fun bs => (.bl (bs.any id), S)
  | _ => none
def bTuple : FF := fun xs S => match xs with
  | [.tup ds] => some (.tup ds, S)
  | [x] => (lsOf S x).map fun ds => (.tup ds, S)
  | _ => none
def bList : FF := fun xs S => match xs with
  | [x] => (seqOf S x).map fun ds => (.lst ds, S)
  | _ => none
/-- a new place -/
def bListM : FF := fun xs S => match xs with
  | [x] => (seqOf S x).map fun ds => (.loc S.length, S ++ [.lst ds])
  | _ => none
def sortZ (ns : List Int) : List Int := ns.mergeSort fun a b => decide (a ≤ b)
def leS (a b : Str) : Bool := decide (a.cps.toList ≤ b.cps.toList)
def sortS (xs : List Str) : List Str := xs.mergeSort leS
def bSorted : FF := fun xs S => match xs with
  | [x] => (lsOf S x).bind fun ds => if ds.length < 64 then (match asInts ds with
      | some ns => some (.lst ((sortZ ns).map D.int), S)
      | none => (asStrs ds).map fun ss => (.lst ((sortS ss).map D.str), S)) else none
  | _ => none
def bMax2 : FF := fun xs S => match xs with
  | [.int i, .int j] => some (.int (if j > i then j else i), S)
  | _ => none
def bMin2 : FF := fun xs S => match xs with
  | [.int i, .int j] => some (.int (if j < i then j else i), S)
  | _ => none
def bRepr : FF := fun xs S => match xs with
  | [x] => (rdS S x).py.bind fun p => if p.showable && !p.hasDict && decide (p.depth ≤ 60) && decide (p.shown.length ≤ sizeLine) then some (.str p.shown, S) else none
  | _ => none
/-- the name of a value's type -/
def tyD : D → Option String
  | .non => some "NoneType"
  | .bl _ => some "bool"
  | .int _ => some "int"
  | .str _ => some "str"
  | .tup _ => some "tuple"
  | .lst _ => some "list"
  | .fro _ => some "list"
  | .dic _ _ => some "dict"
  | _ => none
def isTy (a b : String) : Bool := a == b || (a == "bool" && b == "int")
def knownTy (b : String) : Bool := b == "int" || b == "bool" || b == "str" || b == "tuple" || b == "list" || b == "dict"
def bIsi : FF := fun xs S => match xs with
  | [x, .raw (.ty b)] => if knownTy b then (tyD x).map fun a => (.bl (isTy a b), S) else none
  | _ => none

section
variable {K : PySem.W.Frag} {β : Bt} {H : Hp}
theorem RDs.bls : ∀ {ds : List D} {vs : List V} {bs : List Bool}, RDs K β H ds vs → asBls ds = some bs → vs = bs.map V.bl
  | [], _, _, h, e => by cases h; cases e; rfl
  | .bl b :: ds, _, _, h, e => by
    obtain ⟨bs, e1, e2⟩ := Option.map_eq_some_iff.mp (show (asBls ds).map _ = _ from e)
    subst e2
    cases h with | cons h1 h2 => cases h1; rw [RDs.bls h2 e1]; rfl
theorem RDs.ints : ∀ {ds : List D} {vs : List V} {bs : List Int}, RDs K β H ds vs → asInts ds = some bs → vs = bs.map V.int
  | [], _, _, h, e => by cases h; cases e; rfl
  | .int b :: ds, _, _, h, e => by
    obtain ⟨bs, e1, e2⟩ := Option.map_eq_some_iff.mp (show (asInts ds).map _ = _ from e)
    subst e2
    cases h with | cons h1 h2 => cases h1; rw [RDs.ints h2 e1]; rfl
theorem RDs.strs : ∀ {ds : List D} {vs : List V} {bs : List Str}, RDs K β H ds vs → asStrs ds = some bs → vs = bs.map V.str
  | [], _, _, h, e => by cases h; cases e; rfl
  | .str b :: ds, _, _, h, e => by
    obtain ⟨bs, e1, e2⟩ := Option.map_eq_some_iff.mp (show (asStrs ds).map _ = _ from e)
    subst e2
    cases h with | cons h1 h2 => cases h1; rw [RDs.strs h2 e1]; rfl
theorem RDs.ofInts : ∀ ns : List Int, RDs K β H (ns.map D.int) (ns.map V.int)
  | [] => .nil
  | n :: ns => .cons (.int n) (RDs.ofInts ns)
theorem RDs.ofStrs : ∀ ns : List Str, RDs K β H (ns.map D.str) (ns.map V.str)
  | [] => .nil
  | n :: ns => .cons (.str n) (RDs.ofStrs ns)
theorem asInts_map : ∀ {ds : List D} {ns : List Int}, asInts ds = some ns → ds.length = ns.length
  | [], _, e => by cases e; rfl
  | .int b :: ds, _, e => by
    obtain ⟨bs, e1, e2⟩ := Option.map_eq_some_iff.mp (show (asInts ds).map _ = _ from e)
    subst e2
    simp [asInts_map e1]
theorem asStrs_map : ∀ {ds : List D} {ns : List Str}, asStrs ds = some ns → ds.length = ns.length
  | [], _, e => by cases e; rfl
  | .str b :: ds, _, e => by
    obtain ⟨bs, e1, e2⟩ := Option.map_eq_some_iff.mp (show (asStrs ds).map _ = _ from e)
    subst e2
    simp [asStrs_map e1]

theorem rn_abs : RdN K (fun xs H Q => ∃ i, xs = [.int i] ∧ Q (.int (if i < 0 then -i else i)) H) bAbs := by
  intro β H S xs vs d S' Q rs r hf q
  unfold bAbs at hf
  split at hf
  · cases hf
    cases r with | cons r1 r2 => cases r1; cases r2; exact ⟨_, rfl, q.now rs (.int _)⟩
  · cases hf
theorem rn_int : RdN K (fun xs H Q => (∃ i, xs = [.int i] ∧ Q (.int i) H) ∨ ∃ k, xs = [.bl k] ∧ Q (.int (if k then 1 else 0)) H) bInt := by
  intro β H S xs vs d S' Q rs r hf q
  unfold bInt at hf
  split at hf
  · cases hf
    cases r with | cons r1 r2 => cases r1; cases r2; exact .inl ⟨_, rfl, q.now rs (.int _)⟩
  · cases hf
    cases r with | cons r1 r2 => cases r1; cases r2; exact .inr ⟨_, rfl, q.now rs (.int _)⟩
  · cases hf
theorem rn_len : RdN K (fun xs H Q => ∃ x n, xs = [x] ∧ LenV K x H n ∧ Q (.int n) H) bLen := by
  intro β H S xs vs d S' Q rs r hf q
  unfold bLen at hf
  split at hf
  · cases r with
    | cons r1 r2 =>
      cases r1; cases r2
      split at hf
      · rename_i hl
        cases hf
        exact ⟨_, _, rfl, ⟨hl, rfl⟩, q.now rs (.int _)⟩
      · cases hf
  · cases r with
    | cons r1 r2 =>
      cases r2
      obtain ⟨ds, e1, e2⟩ := Option.map_eq_some_iff.mp hf
      cases e2
      obtain ⟨a, vs, rfl, h1, h2⟩ := rs.seq r1 e1
      rw [h2.length] at q
      rcases h1 with h1 | h1
      · exact ⟨_, _, rfl, .inl ⟨vs, h1, rfl⟩, q.now rs (.int _)⟩
      · exact ⟨_, _, rfl, .inr ⟨vs, h1, rfl⟩, q.now rs (.int _)⟩
  · cases hf
theorem rn_all : RdN K (rAll K) bAll := by
  intro β H S xs vs d S' Q rs r hf q
  unfold bAll at hf
  split at hf
  · cases r with
    | cons r1 r2 =>
      cases r2
      obtain ⟨bs, e1, e2⟩ := Option.map_eq_some_iff.mp hf
      cases e2
      obtain ⟨ds, e3, e4⟩ := Option.bind_eq_some_iff.mp e1
      obtain ⟨a, vs, rfl, h1, h2⟩ := rs.lsq r1 e3
      have := h2.bls e4
      subst this
      exact ⟨a, bs, rfl, h1, q.now rs (.bl _)⟩
  · cases hf
theorem rn_any : RdN K (rAny K) bAny := by
  intro β H S xs vs d S' Q rs r hf q
  unfold bAny at hf
  split at hf
  · cases r with
    | cons r1 r2 =>
      cases r2
      obtain ⟨bs, e1, e2⟩ := Option.map_eq_some_iff.mp hf
      cases e2
      obtain ⟨ds, e3, e4⟩ := Option.bind_eq_some_iff.mp e1
      obtain ⟨a, vs, rfl, h1, h2⟩ := rs.lsq r1 e3
      have := h2.bls e4
      subst this
      exact ⟨a, bs, rfl, h1, q.now rs (.bl _)⟩
  · cases hf
theorem rn_tuple : RdN K (fun xs H Q => ∃ p ys, xs = [.ref p] ∧ ((SqL K H p ys ∧ ∀ l, H l = none → Q (.ref l) (upd H l (.tup ys))) ∨ (SqT K H p ys ∧ Q (.ref p) H))) bTuple := by
  intro β H S xs vs d S' Q rs r hf q
  unfold bTuple at hf
  split at hf
  · cases hf
    cases r with
    | cons r1 r2 =>
      cases r2
      obtain ⟨a, vs, e, h1, h2⟩ := r1.sqt
      subst e
      exact ⟨a, vs, rfl, .inr ⟨h1, q.now rs r1⟩⟩
  · cases r with
    | cons r1 r2 =>
      cases r2
      obtain ⟨ds, e1, e2⟩ := Option.map_eq_some_iff.mp hf
      cases e2
      obtain ⟨a, vs, rfl, h1, h2⟩ := rs.lsq r1 e1
      exact ⟨a, vs, rfl, .inl ⟨h1, q.newT rs h2⟩⟩
  · cases hf
theorem rn_list : RdN K (fun xs H Q => ∃ p ys, xs = [.ref p] ∧ (SqL K H p ys ∨ SqT K H p ys) ∧ ∀ l, H l = none → Q (.ref l) (upd H l (.lst ys))) bList := by
  intro β H S xs vs d S' Q rs r hf q
  unfold bList at hf
  split at hf
  · cases r with
    | cons r1 r2 =>
      cases r2
      obtain ⟨ds, e1, e2⟩ := Option.map_eq_some_iff.mp hf
      cases e2
      obtain ⟨a, vs, rfl, h1, h2⟩ := rs.seq r1 e1
      exact ⟨a, vs, rfl, h1, q.newL rs h2⟩
  · cases hf
theorem rn_listM : RdN K (fun xs H Q => ∃ p ys, xs = [.ref p] ∧ (SqL K H p ys ∨ SqT K H p ys) ∧ ∀ l, H l = none → Q (.ref l) (upd H l (.lst ys))) bListM := by
  intro β H S xs vs d S' Q rs r hf q
  unfold bListM at hf
  split at hf
  · cases r with
    | cons r1 r2 =>
      cases r2
      obtain ⟨ds, e1, e2⟩ := Option.map_eq_some_iff.mp hf
      cases e2
      obtain ⟨a, vs, rfl, h1, h2⟩ := rs.seq r1 e1
      exact ⟨a, vs, rfl, h1, q.placeL rs h2⟩
  · cases hf
theorem sortZ_perm (ns : List Int) : (sortZ ns).Perm ns := List.mergeSort_perm ns _
theorem sortZ_sorted (ns : List Int) : (sortZ ns).Pairwise (· ≤ ·) := by
  have := List.pairwise_mergeSort (le := fun a b : Int => decide (a ≤ b)) (fun a b c h1 h2 => by simp at *; omega) (fun a b => by simp; omega) ns
  exact this.imp fun h => by simpa using h
theorem sortZ_unique {ns ms : List Int} (hp : ms.Perm ns) (hs : ms.Pairwise (· ≤ ·)) : ms = sortZ ns :=
  List.Perm.eq_of_pairwise (le := (· ≤ ·)) (fun a b _ _ h1 h2 => Int.le_antisymm h1 h2) hs (sortZ_sorted ns) (hp.trans (sortZ_perm ns).symm)
theorem rn_max2 : RdN K (fun xs H Q => ∃ i j, xs = [.int i, .int j] ∧ Q (.int (if j > i then j else i)) H) bMax2 := by
  intro β H S xs vs d S' Q rs r hf q
  unfold bMax2 at hf
  split at hf
  · cases hf
    cases r with | cons r1 r2 => cases r2 with | cons r2 r3 => cases r1; cases r2; cases r3; exact ⟨_, _, rfl, q.now rs (.int _)⟩
  · cases hf
theorem rn_min2 : RdN K (fun xs H Q => ∃ i j, xs = [.int i, .int j] ∧ Q (.int (if j < i then j else i)) H) bMin2 := by
  intro β H S xs vs d S' Q rs r hf q
  unfold bMin2 at hf
  split at hf
  · cases hf
    cases r with | cons r1 r2 => cases r2 with | cons r2 r3 => cases r1; cases r2; cases r3; exact ⟨_, _, rfl, q.now rs (.int _)⟩
  · cases hf

/-! ### isinstance -/
theorem tyX_of {d : D} {v : V} {a : String} (r : RD K β H d v) (e : tyD d = some a) : TyX K H v (.type a) := by
  cases r with
  | non => cases e; exact .base .non
  | bl b => cases e; exact .base (.bl b)
  | int i => cases e; exact .base (.int i)
  | str x => cases e; exact .base (.str x)
  | tup h1 h2 h3 =>
    cases e
    rcases h1 with h1 | ⟨o, h1⟩
    · exact .base (.tup h1)
    · exact .fTuple h1
  | ktup h1 h3 =>
    cases e
    obtain ⟨o, its, n, h1, h2, _⟩ := h1
    exact .kTuple h1 h2
  | lst h1 h2 h3 => cases e; exact .base (.lst h1)
  | fro h1 h2 h3 =>
    cases e
    rcases h1 with h1 | ⟨o, h1⟩
    · exact .base (.lst h1)
    · exact .base (.frz h1)
  | kfro h1 h3 =>
    cases e
    obtain ⟨o, its, n, h1, h2, _⟩ := h1
    exact .kList h1 h2
  | dic h1 h2 h3 h4 => cases e; exact .base (.dK h1)
  | loc => cases e
  | raw => cases e
theorem kit_all : (["NoneType", "bool", "int", "str", "tuple", "list", "dict"].all fun a => ["int", "bool", "str", "tuple", "list", "dict"].all fun b => kitB a b == some (isTy a b)) = true := by decide +kernel
theorem tyD_mem {d : D} {a : String} (e : tyD d = some a) : a ∈ ["NoneType", "bool", "int", "str", "tuple", "list", "dict"] := by
  cases d <;> first
    | (cases e; simp)
    | cases e
theorem known_mem {b : String} (e : knownTy b = true) : b ∈ ["int", "bool", "str", "tuple", "list", "dict"] := by
  unfold knownTy at e
  simp only [Bool.or_eq_true, beq_iff_eq] at e
  simp only [List.mem_cons, List.not_mem_nil, or_false]
  rcases e with ((((e | e) | e) | e) | e) | e <;> simp [e]
theorem rn_isi : RdN K (rIsi K) bIsi := by
  intro β H S xs vs d S' Q rs r hf q
  unfold bIsi at hf
  split at hf
  · rename_i x b
    split at hf
    · rename_i hk
      obtain ⟨a, e1, e2⟩ := Option.map_eq_some_iff.mp hf
      cases e2
      cases r with
      | cons r1 r2 =>
        cases r2 with
        | cons r2 r3 =>
          cases r3
          cases r2
          refine ⟨_, _, _, _, _, rfl, .ty b, tyX_of r1 e1, kit_ty (r := isTy a b) ?_, q.now rs (.bl _)⟩
          have h := List.all_eq_true.mp (List.all_eq_true.mp kit_all a (tyD_mem e1)) b (known_mem hk)
          exact beq_iff_eq.mp h
    · cases hf
  · cases hf

/-! ### sorted -/
theorem leS_trans (a b c : Str) (h1 : leS a b = true) (h2 : leS b c = true) : leS a c = true := by
  unfold leS at *
  rw [decide_eq_true_eq] at *
  exact List.le_trans h1 h2
theorem leS_total (a b : Str) : (leS a b || leS b a) = true := by
  unfold leS
  rw [Bool.or_eq_true, decide_eq_true_eq, decide_eq_true_eq]
  exact List.le_total _ _
theorem leS_anti (a b : Str) (h1 : leS a b = true) (h2 : leS b a = true) : a = b := by
  unfold leS at *
  rw [decide_eq_true_eq] at *
  have := List.le_antisymm h1 h2
  obtain ⟨x⟩ := a
  obtain ⟨y⟩ := b
  have h : x.toList = y.toList := this
  rw [Array.toList_inj.mp h]
theorem rising_le : ∀ (r : List Str) (p : Str), PyProof.Rows.risingS p r = true → (p :: r).Pairwise (fun a b => leS a b = true)
  | [], p, _ => by simp
  | x :: r, p, h => by
    have h : (!PySem.Spec.ltCps x.cps.toList p.cps.toList && PyProof.Rows.risingS x r) = true := h
    rw [Bool.and_eq_true, PyProof.Rows.ltCps_eq] at h
    have ih := rising_le r x h.2
    have hpx : leS p x = true := by
      unfold leS
      rw [decide_eq_true_eq]
      have := h.1
      simp only [Bool.not_eq_true', decide_eq_false_iff_not] at this
      exact List.not_lt.mp this
    refine List.pairwise_cons.mpr ⟨fun y hy => ?_, ih⟩
    rcases List.mem_cons.mp hy with rfl | hy
    · exact hpx
    · exact leS_trans p x y hpx ((List.pairwise_cons.mp ih).1 y hy)
theorem sortS_unique {ns ms : List Str} (hp : ms.Perm ns) (hs : PyProof.Rows.sortedS ms = true) : ms = sortS ns := by
  have h1 : ms.Pairwise (fun a b => leS a b = true) := by
    cases ms with
    | nil => exact .nil
    | cons x r => exact rising_le r x hs
  exact List.Perm.eq_of_pairwise (le := fun a b => leS a b = true) (fun a b _ _ => leS_anti a b) h1 (List.pairwise_mergeSort leS_trans leS_total ns) (hp.trans (List.mergeSort_perm ns _).symm)
theorem rn_sorted : RdN K (fun vs H Q => rSorted K vs H Q ∨ rSortedS K vs H Q) bSorted := by
  intro β H S xs vs d S' Q rs r hf q
  unfold bSorted at hf
  split at hf
  · cases r with
    | cons r1 r2 =>
      cases r2
      obtain ⟨ds, e1, hf⟩ := Option.bind_eq_some_iff.mp hf
      split at hf
      · rename_i hl
        obtain ⟨a, vs, rfl, h1, h2⟩ := rs.lsq r1 e1
        split at hf
        · rename_i ns e2
          cases hf
          have := h2.ints e2
          subst this
          refine .inl ⟨a, ns, rfl, h1, by rw [← asInts_map e2]; exact hl, fun ns' p hp hs hn => ?_⟩
          rw [sortZ_unique hp hs]
          exact q.newL rs (RDs.ofInts _) p hn
        · obtain ⟨ns, e2, e3⟩ := Option.map_eq_some_iff.mp hf
          cases e3
          have := h2.strs e2
          subst this
          refine .inr ⟨a, ns, rfl, h1, by rw [← asStrs_map e2]; exact hl, fun ns' p hp hs hn => ?_⟩
          rw [sortS_unique hp hs]
          exact q.newL rs (RDs.ofStrs _) p hn
      · cases hf
  · cases hf
end

/-! ### repr -/
def rRepr (K : PySem.W.Frag) : List V → Hp → VK → Prop := fun xs H Q => ∃ x p, xs = [x] ∧ Dp K H x p ∧ p.showable = true ∧ p.hasDict = false ∧ p.depth ≤ 60 ∧ p.shown.length ≤ sizeLine ∧ Q (.str p.shown) H
theorem call_repr {X : Cx} {k : Nat} (hu : Up X k) : CallR X (.builtin "repr") (rRepr X.K) := by
  intro pins s σ H xs us Q I r h
  obtain ⟨x, p, rfl, hd, h1, h2, h3, h4, q⟩ := h
  obtain ⟨u, rfl, r1⟩ := vals1 r
  obtain ⟨as, rd⟩ := Dp.reads I p x u hd r1
  have un := hu.room.units
  cases rd with
  | none => exact PySem.P.repr_of_none ⟨.str _, H, I.tok _, ⟨_, rfl⟩, by simpa only [PyData.shown] using q⟩
  | bool b => exact PySem.P.repr_of_bool ⟨.str _, H, I.tok _, ⟨_, rfl⟩, by simpa only [PyData.shown] using q⟩
  | int i t => exact PySem.P.repr_of_int (by simpa [PyData.showable] using h1) ⟨.str _, H, I.tok _, ⟨_, rfl⟩, by simpa only [PyData.shown] using q⟩
  | str y t => exact PySem.P.repr_of_str ⟨.str _, H, I.tok _, ⟨_, rfl⟩, by simpa only [PyData.shown] using q⟩ (by simpa only [PyData.shown] using h4)
  | list a1 a2 a3 a4 => exact PySem.repr_of_reads' (.list a1 a2 a3 a4) h1 (PyData.noDict_hsm h2) hu.quiet (by omega) (fun _ _ e => e) (fun h' u tk hk => ⟨.str _, H, I.kept hk, ⟨_, rfl⟩, q⟩) h4
  | tuple a1 a2 a3 a4 => exact PySem.repr_of_reads' (.tuple a1 a2 a3 a4) h1 (PyData.noDict_hsm h2) hu.quiet (by omega) (fun _ _ e => e) (fun h' u tk hk => ⟨.str _, H, I.kept hk, ⟨_, rfl⟩, q⟩) h4
  | dict => cases hd
theorem rn_repr {K : PySem.W.Frag} : RdN K (rRepr K) bRepr := by
  intro β H S xs vs d S' Q rs r hf q
  unfold bRepr at hf
  split at hf
  · cases r with
    | cons r1 r2 =>
      cases r2
      obtain ⟨p, e1, hf⟩ := Option.bind_eq_some_iff.mp hf
      split at hf
      · rename_i h
        cases hf
        simp only [Bool.and_eq_true, Bool.not_eq_true', decide_eq_true_eq] at h
        exact ⟨_, p, rfl, rs.dp r1 e1, h.1.1.1, h.1.1.2, h.1.2, h.2, q.now rs (.str _)⟩
      · cases hf
  · cases hf

/-! ### sep.join(list of texts) -/
def mJoin : F2 := fun x y S => match x with
  | .str a => ((lsOf S y).bind asStrs).bind fun ys => if (ys.map (·.length)).sum + ys.length * a.length ≤ 16777216 then some (.str (Txt.join a ys), S) else none
  | _ => none
theorem de_join {X : Cx} {apos pos : Pos} {o e : Expr} {fo fe : FE} (ho : DE X o fo) (he : DE X e fe) (hs : starEach [e] X.env = [(false, eval e X.env)] := by first | exact st_cons rfl | rfl) (hbase : attributeBase o "join" X.env (eval o X.env) = eval o X.env := by rfl) (hline : (apos.endLine == pos.line) = true := by rfl) :
    DE X (.Call (.Attribute o "join" apos) [e] [] pos) (fOp mJoin fo fe) := de_of (pe_join goE goE hs hbase hline) (by
  intro σ β H env S d S' Q re rs hf q
  obtain ⟨x, S1, e1, hf⟩ := bnd_inv hf
  obtain ⟨y, S2, e2, hf⟩ := bnd_inv hf
  refine ho.run σ β H env S x S1 _ re rs e1 fun v β1 H1 st1 rs1 r1 => ?_
  unfold mJoin at hf
  split at hf
  · cases r1
    refine ⟨⟨_, rfl⟩, he.run σ β1 H1 env S1 y S2 _ (re.step st1) rs1 e2 fun u β2 H2 st2 rs2 r2 => ?_⟩
    obtain ⟨ys, e3, hf⟩ := Option.bind_eq_some_iff.mp hf
    obtain ⟨ds, e4, e5⟩ := Option.bind_eq_some_iff.mp e3
    split at hf
    · rename_i hl
      cases hf
      obtain ⟨a, vs, rfl, h1, h2⟩ := rs2.lsq r2 e4
      have := h2.strs e5
      subst this
      exact ⟨_, a, ys, rfl, rfl, .inl h1, hl, ((q.step st1).step st2).now rs2 (.str _)⟩
    · cases hf
  · cases hf)
end Mir

set_option Elab.async false
set_option linter.all false
set_option maxRecDepth 100000
set_option autoImplicit false
set_option maxHeartbeats 1000000
/-! Mir8: the end: the law's own call. -/
namespace Mir
open PySem PySem.Spec PySem.Calls PyProof.Rows L2

theorem RS.none0 {K : PySem.W.Frag} {H : Hp} : RS K (fun _ => none) H [] :=
  ⟨fun _ _ e => (nomatch e), fun _ _ e => by simp at e, fun _ _ _ e => (nomatch e)⟩
section
variable {P : Program} {w : World} {K : PySem.W.Frag} {mg mb : Str → Option Value} {k : Nat} {fa a : Addr} {fd : FuncData} {x : Str} {F : FF} {s1 : Shared} {vs : List Value} {ns : List Int}
/-- what is known of the shared state ahead of the law's call -/
structure Ahead (K : PySem.W.Frag) (mg mb : Str → Option Value) (s1 : Shared) : Prop where
  kin : K.In s1.heap
  gns : s1.heap.Ns mainGlobals mg
  bns : s1.heap.Ns builtinsNs mb
  bbb : ∀ y : Str, y ≠ "__name__" → mb y = bootBuiltins y
  lim : s1.heap.NoLimit
  gen : s1.gens = #[]
def Ends1 (s1 : Shared) : Result → Shared → Prop := fun r s' => r = .ok (.ret (.bool true)) ∧ OldK s1.heap s'.heap ∧ s'.os = s1.os ∧ AllBare s'.gens
/-- at a heap that tracks the script alone, or nothing -/
theorem coreG (B : Ahead K mg mb s1) (H : Hp) (ha : ∃ o its n, s1.heap.get? a = some o ∧ o.data = .seq its n) (hO : Only H) (hok : HOk P w H s1.heap) (hA : ∀ b, H b ≠ none → b = a) (hK : H a ≠ none → K.lookup a = none) (hr : Room k callerA)
    (G : ∀ base : Heap, K.In base → base.Ns mainGlobals mg → FnG P w K mg base k fa fd [x] F) (hb : ∀ (s : Shared) (u : Value), BindsTo s fd ⟨[u], []⟩ [(x, u)])
    (hsp : spF K F [.ref a] H fun v _ => v = .bl true) : codeAny (model P w) callerA (.call (.ref fa) ⟨[.ref a], []⟩) (Ends1 s1) s1 := by
  have own : ∀ {b : Addr} {o : Obj} {es : Array DictEntry} {ep : Nat}, s1.heap.get? b = some o → o.data = .dict es ep → H b = none := by
    intro b o es ep e d
    refine Classical.byContradiction fun q => ?_
    cases hA b q
    obtain ⟨o2, its, n, e2, d2⟩ := ha
    rw [e] at e2
    cases e2
    rw [d] at d2
    cases d2
  have hid : ∀ {b : Addr} {m : Str → Option Value}, s1.heap.Ns b m → (hidT s1.heap H).Ns b m := by
    rintro b m ⟨o, es, ep, e, d, r⟩
    exact ⟨o, es, ep, hidT_get e (own e d), d, r⟩
  have kin2 : K.In (hidT s1.heap H) := by
    intro b o e
    refine hidT_get (B.kin b o e) (Classical.byContradiction fun q => ?_)
    cases hA b q
    rw [hK q] at e
    cases e
  obtain ⟨mc, l1, l2⟩ := B.lim
  have e0 : Env0 P w K mg (hidT s1.heap H) callerA [] s1 H :=
    ⟨rfl, ⟨kin2, hid B.gns, ⟨mb, hid B.bns, B.bbb⟩, mc, hid l1, l2⟩, fun _ _ e => of_hidT e, Nat.le_of_eq (hidT_size _ _), trivial, fun b hb2 => absurd (show b ∈ ([] : List Addr) from hb2) (by simp), hok, .of_eq B.gen⟩
  refine codeAny_mono ((G _ kin2 (hid B.gns)).run callerA [] s1 H ⟨[.ref a], []⟩ [.ref a] [.ref a] _ hr rfl e0 (hb s1 _) (.cons rfl .nil) hsp) fun r s' h => ?_
  rcases r with e | fl
  · exact absurd h id
  · cases fl with
    | ret u =>
      obtain ⟨v, H2, os, bare, un, ok2, rv, q⟩ := h
      cases (show v = .bl true from q)
      cases (show u = Value.bool true from rv)
      refine ⟨rfl, .of_keep fun b o e => ?_, os, bare⟩
      rcases hO b with z | ⟨ob, xs, z⟩
      · exact un.keep b o e z (fun z2 => absurd (show b ∈ ([] : List Addr) from z2) (by simp)) (by simp)
      · have y1 := (hok b _ z).1
        have y2 := (ok2 b _ (un.frzs b ob _ z)).1
        rw [e] at y1
        cases y1
        exact y2
    | next => exact absurd h id
    | brk => exact absurd h id
    | cont => exact absurd h id
theorem RDs.ints0 {β : Bt} {H : Hp} : ∀ ns : List Int, RDs K β H (ns.map D.int) (ns.map V.int)
  | [] => .nil
  | n :: ns => .cons (.int n) (RDs.ints0 ns)
theorem lawG (B : Ahead K mg mb s1) (ha : s1.heap.get? a = some { cls := .type "list", data := .seq vs.toArray }) (hi : IntsAre vs ns) (hl : ns.length ≤ sizeLine) (hr : Room k callerA)
    (G : ∀ base : Heap, K.In base → base.Ns mainGlobals mg → FnG P w K mg base k fa fd [x] F) (hb : ∀ (s : Shared) (u : Value), BindsTo s fd ⟨[u], []⟩ [(x, u)])
    (hF : ∃ S, F [.fro (ns.map .int)] [] = some (.bl true, S)) : codeAny (model P w) callerA (.call (.ref fa) ⟨[.ref a], []⟩) (Ends1 s1) s1 := by
  have rv := vals_ints hi
  have lv := hi.length
  obtain ⟨S, hF⟩ := hF
  have sp : ∀ H : Hp, RD K (fun _ => none) H (.fro (ns.map .int)) (.ref a) → spF K F [.ref a] H fun v _ => v = .bl true := fun H r =>
    ⟨_, [], _, _, S, RS.none0, .one r, hF, fun v β H1 _ _ r1 => by cases r1; rfl⟩
  have hs : ∃ o its n, s1.heap.get? a = some o ∧ o.data = .seq its n := ⟨_, _, _, ha, rfl⟩
  cases hk : K.lookup a with
  | some o =>
    have e := B.kin a o hk
    rw [ha] at e
    cases e
    refine coreG B (fun _ => none) hs (fun _ => .inl rfl) (fun b u z => (nomatch (show (none : Option HO) = some u from z))) (fun b z => absurd rfl z) (fun z => absurd rfl z) hr G hb (sp _ (.kfro ⟨_, vs.toArray, _, hk, rfl, rfl, rfl, ?_, ?_⟩ (RDs.ints0 ns)))
    · rw [List.size_toArray, lv]; exact hl
    · simpa using rv
  | none =>
    have dec : ∀ b : Addr, (if b = a then some (HO.frz { cls := .type "list", data := .seq vs.toArray } (.lst (ns.map V.int))) else none) ≠ none → b = a := fun b z => Classical.byContradiction fun q => z (if_neg q)
    refine coreG B (fun b => if b = a then some (.frz { cls := .type "list", data := .seq vs.toArray } (.lst (ns.map V.int))) else none) hs (fun b => ?_) (fun b u z => ?_) dec (fun _ => hk) hr G hb (sp _ (.fro (.inr ⟨_, if_pos rfl⟩) (fun _ => nofun) (RDs.ints0 ns)))
    · by_cases q : b = a
      · exact .inr ⟨_, _, if_pos q⟩
      · exact .inl (if_neg q)
    · cases dec b (by rw [show (if b = a then _ else none) = some u from z]; exact nofun)
      cases (if_pos rfl).symm.trans z
      exact ⟨ha, by rw [List.length_map]; exact hl, vs, _, rv, ha⟩
end
theorem walkG {l : PySem.W.OpenLaw} {n k : Nat} {q : Program} {loose : List Str} {XP : (Str → Option Value) → Heap → Prop} {YP : World → Heap → Prop} {d : DefRec} {K : Params → PySem.W.Frag} {x : Str}
    (hn : l.most = some n) (hn2 : n ≤ sizeLine) (hdf : d.params.defaults = []) (hr : Room k callerA) (hY : ∀ (w : World) (h : Heap), YP w h → (K w.params).In h)
    (hF : ∀ (w : World) (mg : Str → Option Value) (fa : Addr) (h : Heap), (K w.params).In h → h.Ns mainGlobals mg → mg d.name = some (.ref fa) →
      ∃ (fd : FuncData) (F : FF), (∀ (s : Shared) (u : Value), BindsTo s fd ⟨[u], []⟩ [(x, u)]) ∧ (∀ base : Heap, (K w.params).In base → base.Ns mainGlobals mg → FnG l.prog w (K w.params) mg base k fa fd [x] F) ∧
        ∀ ns : List Int, ns.length ≤ n → (∀ z ∈ ns, Builtin.Int.intBits z ≤ 1048576) → ∃ S, F [.fro (ns.map .int)] [] = some (.bl true, S)) :
    PySem.W.WalkO q loose XP YP l.row.toRowW d [] (fun f vs => PySem.call f vs) := by
  refine Att.attach_callB hn hdf fun w s0 s1 mg mb fa o pm cd doc a vs ns G Y ho hd hcd hmg hobj hints hlen hbits hg => ?_
  obtain ⟨fd, F, h1, h2, h3⟩ := hF w mg fa _ (hY w _ Y) G.T.g hmg
  exact lawG ⟨hY w _ Y, G.T.g, G.T.b, G.T.builtins, G.T.nolimit, hg⟩ hobj hints (Nat.le_trans hlen hn2) hr h2 h1 (h3 ns hlen hbits)
end Mir

set_option Elab.async false
set_option linter.all false
set_option maxRecDepth 100000
set_option autoImplicit false
set_option maxHeartbeats 1000000
/-! Mir9: more of the same: o[i] op= e, zip, {}, built-ins ready to be named, defs that hand back a place. -/
namespace Mir
open PySem L2

/-! ### o[i] op= e -/
def oIxN : F2 := fun x y S => match x, y with
  | .loc n, .int i => if 0 ≤ i then (match S[n]? with
    | some (.lst ds) => (ds[i.toNat]?).map fun d => (d, S)
    | _ => none) else none
  | _, _ => none
def rGetN : V → V → Hp → VK → Prop := fun o i H Q => ∃ p xs k z, o = .ref p ∧ i = .int k ∧ 0 ≤ k ∧ H p = some (.lst xs) ∧ xs[k.toNat]? = some z ∧ Q z H
theorem get_n {X : Cx} : PGet X rGetN := by
  intro pins s σ H o i ov iv Q I ro ri h
  obtain ⟨p, xs, k, z, rfl, rfl, h0, hp, hz, q⟩ := h
  cases ro
  obtain ⟨t, rfl⟩ := ri
  obtain ⟨its, r, pl, hl⟩ := I.list (.inl (.inl hp))
  obtain ⟨u, hu, ru⟩ := r.get hz
  have n := (List.getElem?_eq_some_iff.mp hz).1
  have l63 := line63
  exact wpAny_getItem_list pl.isList h0 (by have := r.length; omega) (by simpa using hu) ⟨z, H, I, ru, q⟩
def sAugN (fo fi : FE) (op : F2) (fe : FE) : FS := fun env S => bnd (fo env S) fun o S1 => bnd (fi env S1) fun i S2 => bnd (oIxN o i S2) fun x S3 => bnd (fe env S3) fun y S4 => bnd (op x y S4) fun z S5 => (ixSet S5 o i z).map fun S6 => (.nx env, S6)
theorem ds_augN {X : Cx} {pos tpos : Pos} {e o i : Expr} {fe fo fi : FE} {op2 : F2} {r : R2} {op : Operator} (hop : OpR X (inplaceOp op) r) (hr : Rd2 X.K r op2) (ho : DE X o fo) (hi : DE X i fi) (he : DE X e fe)
    (ha : ∀ ov iv new, augStore i ov iv new = (do holding [new, ov, iv] (setItem ov iv new); release [new, ov, iv] []; pure .next) := by intros; rfl) : DS X (.AugAssign (.Subscript o i tpos) op e pos) (sAugN fo fi op2 fe) := by
  refine ds_of (ps_augS goE goE get_n goE (fun pins s σ H x y v u Q I rx ry h => hop pins s σ H x y v u Q I rx ry h) set_list ha) ?_
  intro σ β H env S d S' N re rs hf q
  obtain ⟨x1, S1, e1, hf⟩ := bnd_inv hf
  obtain ⟨x2, S2, e2, hf⟩ := bnd_inv hf
  obtain ⟨x3, S3, e3, hf⟩ := bnd_inv hf
  obtain ⟨x4, S4, e4, hf⟩ := bnd_inv hf
  obtain ⟨x5, S5, e5, hf⟩ := bnd_inv hf
  obtain ⟨S6, e6, e7⟩ := Option.map_eq_some_iff.mp hf
  cases e7
  refine ho.run σ β H env S x1 S1 _ re rs e1 fun v1 β1 H1 st1 rs1 r1 => ?_
  refine hi.run σ β1 H1 env S1 x2 S2 _ (re.step st1) rs1 e2 fun v2 β2 H2 st2 rs2 r2 => ?_
  unfold oIxN at e3
  split at e3
  · split at e3
    · rename_i hk
      split at e3
      · rename_i ds hd
        obtain ⟨x3', e8, e9⟩ := Option.map_eq_some_iff.mp e3
        cases e9
        obtain ⟨a, u, g1, g2, g3⟩ := rs2.obj _ _ hd
        have r1' := RD.step st2 _ _ r1
        cases r2
        cases r1' with
        | loc hl =>
          rw [hl] at g1
          cases g1
          cases g3 with
          | lst g3 =>
            obtain ⟨w, hw, rw⟩ := g3.get e8
            refine ⟨_, _, _, w, rfl, rfl, hk, g2, hw, ?_⟩
            refine he.run σ β2 H2 env S2 x4 S4 _ ((re.step st1).step st2) rs2 e4 fun v4 β4 H4 st4 rs4 r4 => ?_
            refine hr β4 H4 S4 _ x4 w v4 x5 S5 _ rs4 (RD.step st4 _ _ rw) r4 e5 fun v5 β5 H5 st5 rs5 r5 => ?_
            have st := ((st1.trans st2).trans st4).trans st5
            exact rd_set rs5 (RD.step (st4.trans st5) _ _ (.loc hl)) (.int _) r5 e6 fun H6 st6 rs6 => q _ β5 H6 (st.trans st6) rs6 (re.step (st.trans st6))
      · cases e3
    · cases e3
  · cases e3
theorem rd_iadd {K : PySem.W.Frag} : Rd2 K (rI0 fun i j => .int (i + j)) (oI (fun _ _ => true) fun i j => .int (i + j)) := rd_I0 fun i j _ _ => .int (i + j)
theorem rd_isub {K : PySem.W.Frag} : Rd2 K (rI0 fun i j => .int (i - j)) (oI (fun _ _ => true) fun i j => .int (i - j)) := rd_I0 fun i j _ _ => .int (i - j)

/-! ### zip of two tuples, of two lists -/
def zipD : List D → List D → List D
  | x :: xs, y :: ys => .tup [x, y] :: zipD xs ys
  | _, _ => []
theorem zipD_get : ∀ {xs ys : List D} {i : Nat} {d : D}, (zipD xs ys)[i]? = some d → ∃ x y, xs[i]? = some x ∧ ys[i]? = some y ∧ d = .tup [x, y]
  | x :: xs, y :: ys, 0, d, h => by cases h; exact ⟨x, y, rfl, rfl, rfl⟩
  | x :: xs, y :: ys, i + 1, d, h => zipD_get (xs := xs) (ys := ys) (i := i) h
  | [], _, _, _, h => by simp [zipD] at h
  | _ :: _, [], _, _, h => by simp [zipD] at h
theorem zipD_len : ∀ {xs ys : List D}, xs.length ≤ (zipD xs ys).length ∨ ys.length ≤ (zipD xs ys).length
  | x :: xs, y :: ys => by
    rcases zipD_len (xs := xs) (ys := ys) with h | h
    · exact .inl (Nat.succ_le_succ h)
    · exact .inr (Nat.succ_le_succ h)
  | [], _ => .inl (Nat.zero_le _)
  | _ :: _, [] => .inr (Nat.zero_le _)
def fZip (g : FA) : FA := fun env S => bnd (g env S) fun ds S1 => match ds with
  | [x, y] => (match gTup x, gTup y, gList x, gList y with
    | some xs, some ys, _, _ => some (zipD xs ys, S1)
    | _, _, some xs, some ys => some (zipD xs ys, S1)
    | _, _, _, _ => none)
  | _ => none
theorem itOk_zip {K : PySem.W.Frag} {β : Bt} {H : Hp} {J : It} {R : Addr → List V → Hp → Prop} {a b : Addr} {xs ys : List D} (hJ : J = ⟨fun i H => ∃ (xs ys : List V) (x y : V), R a xs H ∧ R b ys H ∧ xs[i]? = some x ∧ ys[i]? = some y,
      fun i H v H' => ∃ T x y, v = .ref T ∧ H T = none ∧ H' = upd H T (.tup [x, y]) ∧ (∀ xs, R a xs H → xs[i]? = some x) ∧ ∀ ys, R b ys H → ys[i]? = some y, fun i H => ∃ xs ys : List V, R a xs H ∧ R b ys H ∧ (xs.length ≤ i ∨ ys.length ≤ i)⟩)
    (hx : ∀ β' H', Step β H β' H' → ∃ vs, R a vs H' ∧ RDs K β' H' xs vs) (hy : ∀ β' H', Step β H β' H' → ∃ vs, R b vs H' ∧ RDs K β' H' ys vs) : ItOk K β H J (zipD xs ys) := by
  subst hJ
  intro β' H' st
  obtain ⟨vs, a1, a2⟩ := hx β' H' st
  obtain ⟨us, b1, b2⟩ := hy β' H' st
  refine ⟨fun i d hd => ?_, vs, us, a1, b1, ?_⟩
  · obtain ⟨x, y, e1, e2, rfl⟩ := zipD_get hd
    obtain ⟨v, e3, r3⟩ := a2.get e1
    obtain ⟨u, e4, r4⟩ := b2.get e2
    refine ⟨⟨vs, us, v, u, a1, b1, e3, e4⟩, fun z H2 yl S rs => ?_⟩
    obtain ⟨T, x', y', rfl, hT, rfl, f1, f2⟩ := yl
    have q1 := f1 vs a1
    have q2 := f2 us b1
    rw [e3] at q1
    rw [e4] at q2
    cases q1
    cases q2
    exact ⟨.laid hT, rs.laid hT, RD.newT rs hT (.cons r3 (.cons r4 .nil))⟩
  · rw [← a2.length, ← b2.length]
    exact zipD_len
theorem di_zip {X : Cx} {e e2 : Expr} {p pos tpos : Pos} {elts : List Expr} {kk : Nat} {g : FA} (hm : X.mg "zip" = none) (ha : DA X [e, e2] g) (hg : Gl X "zip" := by rfl)
    (hs : starEach [e, e2] X.env = (false, eval e X.env) :: starEach [e2] X.env := by first | exact st_cons rfl | rfl) (hpl : (backTo pos (starEach [e2] X.env)).any (·.1) = false := by first | exact st_plain rfl | rfl) : DI X (.Tuple elts kk tpos) (.Call (.Name "zip" p) [e, e2] [] pos) (fZip g) :=
  ⟨_, RZ.pi_zipA hg hm goA hs hpl, by
    intro σ β H env S ds S' R re rs hf q
    obtain ⟨xs, S1, e1, hf⟩ := bnd_inv hf
    refine ha.run σ β H env S xs S1 _ re rs e1 fun vs β1 H1 st1 rs1 r1 => ?_
    split at hf
    · rename_i x y
      cases r1 with
      | cons r1 r2 =>
        cases r2 with
        | cons r2 r3 =>
          cases r3
          split at hf
          · rename_i as bs h1 h2
            cases hf
            obtain ⟨a, rfl, k1⟩ := gTup_ok r1 h1
            obtain ⟨b, rfl, k2⟩ := gTup_ok r2 h2
            obtain ⟨vs1, c1, _⟩ := k1 β1 H1 .refl
            obtain ⟨vs2, c2, _⟩ := k2 β1 H1 .refl
            exact ⟨a, b, vs1, vs2, rfl, .inr ⟨c1, c2, q _ β1 H1 st1 rs1 (itOk_zip (R := fun a xs H => SqT X.K H a xs) rfl k1 k2)⟩⟩
          · rename_i as bs h1 h2 _
            cases hf
            obtain ⟨a, rfl, k1⟩ := gList_ok r1 h1
            obtain ⟨b, rfl, k2⟩ := gList_ok r2 h2
            obtain ⟨vs1, c1, _⟩ := k1 β1 H1 .refl
            obtain ⟨vs2, c2, _⟩ := k2 β1 H1 .refl
            exact ⟨a, b, vs1, vs2, rfl, .inl ⟨c1, c2, q _ β1 H1 st1 rs1 (itOk_zip (R := fun a xs H => SqL X.K H a xs) rfl k1 k2)⟩⟩
          · cases hf
    · cases hf⟩

/-! ### {} -/
def fDic0 : FE := fun _ S => some (.dic [] [], S)
theorem de_dic0 {X : Cx} {pos : Pos} : DE X (.Dict [] [] pos) fDic0 := de_of pe_dnewK (by
  intro σ β H env S d S' Q re rs hf q
  cases hf
  intro p hp
  exact q _ β _ (.laid hp) (rs.laid hp) (RD.newD (kvs := []) rs hp .nil))

/-! ### a def that hands back a place -/
/-- what is done with what a def hands back -/
def Closer (c : Nat → D → Store → Option (D × Store)) : Prop := ∀ (K : PySem.W.Frag) (β0 : Bt) (H0 : Hp) (β : Bt) (H : Hp) (d : D) (v : V) (n : Nat) (S : Store) (d' : D) (S' : Store), Step β0 H0 β H → (∀ m a, β0 m = some a → m < n) → RS K β H S → RD K β H d v → c n d S = some (d', S') →
  ∃ β', Step β0 H0 β' H ∧ RS K β' H S' ∧ RD K β' H d' v
theorem closer_V : Closer closeV := fun K β0 H0 β H d v n S d' S' st hd rs r e => by
  obtain ⟨a, b⟩ := closeV_ok rs r e
  exact ⟨_, st.cut hd, a, b⟩
def closeP (n : Nat) (d : D) (S : Store) : Option (D × Store) :=
  match d with
  | .loc m => if n ≤ m then (match S[m]? with
    | some o => if (S.take n).all (O.blw n) && o.blw n && decide (n ≤ S.length) then some (.loc n, S.take n ++ [o]) else none
    | none => none) else none
  | _ => none
def bmv (β : Bt) (n m : Nat) : Bt := fun i => if i < n then β i else if i = n then β m else none
section
variable {K : PySem.W.Frag} {β : Bt} {H : Hp} {n m : Nat}
theorem Out.mv {a : Addr} (h : Out β a) : Out (bmv β n m) a := fun i e => by
  unfold bmv at e
  split at e
  · exact h i e
  · split at e
    · exact h m e
    · cases e
mutual
theorem RD.mv : ∀ (d : D) (v : V), RD K β H d v → d.blw n = true → RD K (bmv β n m) H d v
  | .non, _, h, _ => by cases h; exact .non
  | .bl _, _, h, _ => by cases h; exact .bl _
  | .int _, _, h, _ => by cases h; exact .int _
  | .str _, _, h, _ => by cases h; exact .str _
  | .tup ds, _, h, b => by
    have b' : D.blws n ds = true := by simpa only [D.blw] using b
    cases h with
    | tup h1 h2 h3 => exact .tup h1 h2.mv (RDs.mv ds _ h3 b')
    | ktup h1 h3 => exact .ktup h1 (RDs.mv ds _ h3 b')
  | .lst ds, _, h, b => by
    have b' : D.blws n ds = true := by simpa only [D.blw] using b
    cases h with
    | lst h1 h2 h3 => exact .lst h1 h2.mv (RDs.mv ds _ h3 b')
  | .fro ds, _, h, b => by
    have b' : D.blws n ds = true := by simpa only [D.blw] using b
    cases h with
    | fro h1 h2 h3 => exact .fro h1 h2.mv (RDs.mv ds _ h3 b')
    | kfro h1 h3 => exact .kfro h1 (RDs.mv ds _ h3 b')
  | .dic ks ds, _, h, b => by
    have b' : D.blws n ds = true := by simpa only [D.blw] using b
    cases h with
    | dic h1 h2 h4 h3 => exact .dic h1 h2.mv h4 (RDs.mv ds _ h3 b')
  | .loc k, _, h, b => by
    have b' : k < n := by simpa only [D.blw, decide_eq_true_eq] using b
    cases h with
    | loc h =>
      refine .loc ?_
      unfold bmv
      rw [if_pos b']
      exact h
  | .raw v, _, h, _ => by cases h; exact .raw v
theorem RDs.mv : ∀ (ds : List D) (vs : List V), RDs K β H ds vs → D.blws n ds = true → RDs K (bmv β n m) H ds vs
  | [], _, h, _ => by cases h; exact .nil
  | d :: ds, _, h, b => by
    have b' : d.blw n = true ∧ D.blws n ds = true := by simpa only [D.blws, Bool.and_eq_true] using b
    cases h with | cons h1 h2 => exact .cons (RD.mv d _ h1 b'.1) (RDs.mv ds _ h2 b'.2)
end
theorem RO.mv {o : O} {u : HO} (h : RO K β H o u) (b : o.blw n = true) : RO K (bmv β n m) H o u := by
  cases h with
  | lst h => exact .lst (RDs.mv _ _ h (by simpa only [O.blw] using b))
  | dic e h => exact .dic e (RDs.mv _ _ h (by simpa only [O.blw] using b))
  | ins e h => exact .ins e (RDs.mv _ _ h (by simpa only [O.blw] using b))
end
theorem closer_P : Closer closeP := fun K β0 H0 β H d v n S d' S' st hd rs r e => by
  unfold closeP at e
  split at e
  · rename_i m
    split at e
    · rename_i hm
      split at e
      · rename_i o ho
        split at e
        · rename_i hb
          cases e
          simp only [Bool.and_eq_true, decide_eq_true_eq] at hb
          obtain ⟨⟨hb1, hb2⟩, hb3⟩ := hb
          obtain ⟨a, u, h1, h2, h3⟩ := rs.obj m o ho
          have lt : (S.take n).length = n := by rw [List.length_take]; omega
          have at_n : bmv β n m n = some a := by
            unfold bmv
            rw [if_neg (Nat.lt_irrefl n), if_pos rfl]
            exact h1
          refine ⟨bmv β n m, ⟨st.keep, fun i b hi => ?_, fun i b hi => ?_, st.live⟩, ⟨fun i b hi => ?_, fun i x hx => ?_, fun i j b hi hj => ?_⟩, ?_⟩
          · unfold bmv
            rw [if_pos (hd i b hi)]
            exact st.ext i b hi
          · unfold bmv at hi
            split at hi
            · exact st.new i b hi
            · split at hi
              · rcases st.new m b hi with q | q
                · have := hd m b q
                  omega
                · exact .inr q
              · cases hi
          · rw [List.length_append, lt]
            show i < n + 1
            unfold bmv at hi
            split at hi
            · omega
            · split at hi
              · omega
              · cases hi
          · by_cases hin : i < n
            · rw [List.getElem?_append_left (by omega), List.getElem?_take_of_lt hin] at hx
              obtain ⟨b, w, g1, g2, g3⟩ := rs.obj i x hx
              refine ⟨b, w, ?_, g2, g3.mv (List.all_eq_true.mp hb1 x (List.mem_of_getElem? (by rw [List.getElem?_take_of_lt hin]; exact hx)))⟩
              unfold bmv
              rw [if_pos hin]
              exact g1
            · have e : i = n := by
                have := (List.getElem?_eq_some_iff.mp hx).1
                rw [List.length_append, lt] at this
                have t1 : ([o] : List O).length = 1 := rfl
                omega
              subst e
              rw [List.getElem?_append_right (by omega), lt] at hx
              simp at hx
              subst hx
              exact ⟨a, u, at_n, h2, h3.mv hb2⟩
          · unfold bmv at hi hj
            split at hi
            · split at hj
              · exact rs.inj i j b hi hj
              · split at hj
                · have := rs.inj i m b hi hj
                  omega
                · cases hj
            · split at hi
              · split at hj
                · have := rs.inj m j b hi hj
                  omega
                · split at hj
                  · omega
                  · cases hj
              · cases hi
          · cases r with
            | loc hl =>
              rw [h1] at hl
              cases hl
              exact .loc at_n
        · cases e
      · cases e
    · cases e
  · cases e
end Mir

set_option Elab.async false
set_option linter.all false
set_option maxRecDepth 100000
set_option autoImplicit false
set_option maxHeartbeats 1000000
/-! Mir10: a def's worth, with a closer; built-ins by name. -/
namespace Mir
open PySem PySem.P PySem.Spec PyProof.Rows L2

def fnC (c : Nat → D → Store → Option (D × Store)) (n m : Nat) (g : FS) : FF := fun ds S => if ds.length = m then (match g (ds.map some ++ List.replicate (n - m) none) S with
    | some (.rt d, S') => c S.length d S'
    | some (.nx _, S') => c S.length .non S'
    | _ => none)
  else none
section
variable {P : Program} {w : World} {K : PySem.W.Frag} {mg : Str → Option Value} {base : Heap}
theorem fnG_ofC {c : Nat → D → Store → Option (D × Store)} (hcl : Closer c) {x qual : Str} {st : Stmt} {f : Addr} {fd : FuncData} {N ps : List Str} {k n m : Nat} {g : FS} (F0 : Fun K x qual st f fd) (S0 : FnScope N ps (defScope st)) (hn : n = N.length) (hm : m = ps.length)
    (body : ∀ (cdv : Value) (A : Around) (out : List PySem.Env) (s : Shared) (H : Hp), Up (cxOf CX0 P w K mg base N qual (defScope st) f cdv A out s H E0).nox k → DSs (cxOf CX0 P w K mg base N qual (defScope st) f cdv A out s H E0).nox (defBody st) g) : FnG P w K mg base (k + 1) f fd ps (fnC c n m g) := by
  obtain ⟨oc, od, kV, doc, pm, an, cdv, ct, osl, rfl, lk, hcd⟩ := F0.ex
  refine ⟨fun ds S r e => ?_, fun A out s H args us vs Q hr hq e0 hb r hsp => ?_⟩
  · unfold fnC at e
    split at e
    · rename_i h
      exact h.trans hm
    · cases e
  · obtain ⟨β, S, ds, d, S', rs, rd, hf, q⟩ := hsp
    have hlen : ds.length = m := Classical.byContradiction fun z => by
      unfold fnC at hf
      rw [if_neg z] at hf
      cases hf
    unfold fnC at hf
    rw [if_pos hlen] at hf
    have hl : vs.length = ps.length := by rw [← rd.length, hlen, hm]
    have KX : K.In s.heap := e0.mod.kin.keeps fun b o e => (e0.bs b o e).1
    have lim : s.heap.NoLimit := e0.mod.nolimit.keeps fun b o e => (e0.bs b o e).1
    have hkind : ∀ y ∈ ps.zip us, (defScope st).names.lookup y.1 = some .local ∨ ((defScope st).names.lookup y.1 = some .cell ∧ ((cellsFrom (s.heap.objs.size + 1) (defScope st).names []).lookup y.1).isSome = true) := by
      rintro ⟨n, v⟩ hy
      exact (S0.par n (List.of_mem_zip hy).1).imp id fun c => ⟨c, PySem.W.cellsFrom_some _ _ _ (.inl c)⟩
    refine codeAny_call_function hr.depth (KX _ _ lk) rfl S0.co S0.gen rfl (PySem.W.codeRec_of KX hcd) (hb _ _ _ _ ?_)
    refine wpAny_newFunctionEnv_cells S0.kind hkind fun env he s1 x => ?_
    subst he
    refine ⟨lim.keeps x.toInCall.keep, codeAny_func ?_⟩
    have I := (inv_start (CX := CX0) (E := E0) S0 hr.hd e0 hl r x : Inv (cxOf CX0 P w K mg base N qual (defScope st) f cdv A out s H E0) [] (L2.start N vs) H s1)
    have B := body cdv A out s H ⟨hr.deeper _, hq⟩
    have fin : ∀ {s' : Shared} {σ' : L2.St} {H' : Hp} {v : V} {u : Value}, Inv (cxOf CX0 P w K mg base N qual (defScope st) f cdv A out s H E0) [] σ' H' s' → RelV v u → Q v H' → CE out P w H s Q u s' :=
      fun {s' σ' H' v u} J rv q => ⟨v, H', J.os, J.bare, J.base, J.hok, rv, q⟩
    have back : ∀ (r1 : Rt) (S1 : Store) (d1 : D), g (ds.map some ++ List.replicate (n - m) none) S = some (r1, S1) → (r1 = .rt d1 ∨ ∃ e1, r1 = .nx e1 ∧ d1 = .non) → c S.length d1 S1 = some (d, S') → PostS K β H S1 r1 { nx := fun _ H' => Q .non H', rt := Q } := by
      intro r1 S1 d1 _ h hc
      rcases h with rfl | ⟨e1, rfl, rfl⟩
      · intro v β1 H1 st1 rs1 rd1
        obtain ⟨β2, a1, a2, a3⟩ := hcl K β H β1 H1 d1 v S.length S1 d S' st1 rs.dom rs1 rd1 hc
        exact q v β2 H1 a1 a2 a3
      · intro σ1 β1 H1 st1 rs1 re1
        obtain ⟨β2, a1, a2, a3⟩ := hcl K β H β1 H1 .non .non S.length S1 d S' st1 rs.dom rs1 .non hc
        exact q .non β2 H1 a1 a2 a3
    obtain ⟨r1, S1, hg, hps⟩ : ∃ (r1 : Rt) (S1 : Store), g (ds.map some ++ List.replicate (n - m) none) S = some (r1, S1) ∧ PostS K β H S1 r1 { nx := fun _ H' => Q .non H', rt := Q } := by
      split at hf
      · rename_i d1 S1 hg
        exact ⟨_, _, hg, back _ _ d1 hg (.inl rfl) hf⟩
      · rename_i e1 S1 hg
        exact ⟨_, _, hg, back _ _ .non hg (.inr ⟨e1, rfl, rfl⟩) hf⟩
      · cases hf
    refine wpAny_mono (goSs.nox.run [] s1 (L2.start N vs) H _ I (B.run (L2.start N vs) β H _ S r1 S1 _ (RE.start rd hn hlen) rs hg hps)) (fun fl s' hs => ?_) fun e s' hs => hs
    cases fl with
    | ret u =>
      obtain ⟨v, σ', H', J, rv, q⟩ := hs
      exact fin J rv q
    | next =>
      obtain ⟨σ', H', J, q⟩ := hs
      exact fin (v := V.non) (u := Value.none) J rfl q
    | brk =>
      obtain ⟨_, _, _, z⟩ := hs
      exact False.elim z
    | cont =>
      obtain ⟨_, _, _, z⟩ := hs
      exact False.elim z
end

/-! ### built-ins by name -/
section
variable {X : Cx} {k : Nat} {p pos : Pos} {e : Expr} {es : List Expr} {g : FA}
theorem de_abs (hm : X.mg "abs" = none) (ha : DA X (e :: es) g) (hg : Gl X "abs" := by rfl) (he : starEach (e :: es) X.env = (false, eval e X.env) :: starEach es X.env := by first | exact st_cons rfl | rfl) (hpl : (backTo pos (starEach es X.env)).any (·.1) = false := by first | exact st_plain rfl | rfl) : DE X (.Call (.Name "abs" p) (e :: es) [] pos) (fCall bAbs g) := de_callB call_abs rn_abs hm boot_abs ha hg (by decide) (by decide) he hpl
theorem de_intC (hm : X.mg "int" = none) (ha : DA X (e :: es) g) (hg : Gl X "int" := by rfl) (he : starEach (e :: es) X.env = (false, eval e X.env) :: starEach es X.env := by first | exact st_cons rfl | rfl) (hpl : (backTo pos (starEach es X.env)).any (·.1) = false := by first | exact st_plain rfl | rfl) : DE X (.Call (.Name "int" p) (e :: es) [] pos) (fCall bInt g) := de_callTy call_int1 rn_int hm boot_int ha hg (by decide) (by decide) he hpl
theorem de_len (hm : X.mg "len" = none) (ha : DA X (e :: es) g) (hg : Gl X "len" := by rfl) (he : starEach (e :: es) X.env = (false, eval e X.env) :: starEach es X.env := by first | exact st_cons rfl | rfl) (hpl : (backTo pos (starEach es X.env)).any (·.1) = false := by first | exact st_plain rfl | rfl) : DE X (.Call (.Name "len" p) (e :: es) [] pos) (fCall bLen g) := de_callB call_len rn_len hm boot_len ha hg (by decide) (by decide) he hpl
theorem de_all (hm : X.mg "all" = none) (ha : DA X (e :: es) g) (hg : Gl X "all" := by rfl) (hc : X.calm = true := by rfl) (he : starEach (e :: es) X.env = (false, eval e X.env) :: starEach es X.env := by first | exact st_cons rfl | rfl) (hpl : (backTo pos (starEach es X.env)).any (·.1) = false := by first | exact st_plain rfl | rfl) : DE X (.Call (.Name "all" p) (e :: es) [] pos) (fCall bAll g) := de_callB (cr_all hc) rn_all hm boot_all ha hg (by decide) (by decide) he hpl
theorem de_any (hm : X.mg "any" = none) (ha : DA X (e :: es) g) (hg : Gl X "any" := by rfl) (hc : X.calm = true := by rfl) (he : starEach (e :: es) X.env = (false, eval e X.env) :: starEach es X.env := by first | exact st_cons rfl | rfl) (hpl : (backTo pos (starEach es X.env)).any (·.1) = false := by first | exact st_plain rfl | rfl) : DE X (.Call (.Name "any" p) (e :: es) [] pos) (fCall bAny g) := de_callB (cr_any hc) rn_any hm boot_any ha hg (by decide) (by decide) he hpl
theorem de_tuple (hm : X.mg "tuple" = none) (ha : DA X (e :: es) g) (hg : Gl X "tuple" := by rfl) (he : starEach (e :: es) X.env = (false, eval e X.env) :: starEach es X.env := by first | exact st_cons rfl | rfl) (hpl : (backTo pos (starEach es X.env)).any (·.1) = false := by first | exact st_plain rfl | rfl) : DE X (.Call (.Name "tuple" p) (e :: es) [] pos) (fCall bTuple g) := de_callTy call_tuple_of rn_tuple hm boot_tuple ha hg (by decide) (by decide) he hpl
theorem de_list (hm : X.mg "list" = none) (ha : DA X (e :: es) g) (hg : Gl X "list" := by rfl) (he : starEach (e :: es) X.env = (false, eval e X.env) :: starEach es X.env := by first | exact st_cons rfl | rfl) (hpl : (backTo pos (starEach es X.env)).any (·.1) = false := by first | exact st_plain rfl | rfl) : DE X (.Call (.Name "list" p) (e :: es) [] pos) (fCall bList g) := de_callTy call_list_of rn_list hm boot_list ha hg (by decide) (by decide) he hpl
theorem de_listM (hm : X.mg "list" = none) (ha : DA X (e :: es) g) (hg : Gl X "list" := by rfl) (he : starEach (e :: es) X.env = (false, eval e X.env) :: starEach es X.env := by first | exact st_cons rfl | rfl) (hpl : (backTo pos (starEach es X.env)).any (·.1) = false := by first | exact st_plain rfl | rfl) : DE X (.Call (.Name "list" p) (e :: es) [] pos) (fCall bListM g) := de_callTy call_list_of rn_listM hm boot_list ha hg (by decide) (by decide) he hpl
theorem de_sorted (hm : X.mg "sorted" = none) (ha : DA X (e :: es) g) (hg : Gl X "sorted" := by rfl) (hc : X.calm = true := by rfl) (he : starEach (e :: es) X.env = (false, eval e X.env) :: starEach es X.env := by first | exact st_cons rfl | rfl) (hpl : (backTo pos (starEach es X.env)).any (·.1) = false := by first | exact st_plain rfl | rfl) : DE X (.Call (.Name "sorted" p) (e :: es) [] pos) (fCall bSorted g) := de_callB (cr_sorted.or cr_sortedS) rn_sorted hm boot_sorted ha hg (by decide) (by decide) he hpl
theorem de_isi (hm : X.mg "isinstance" = none) (ha : DA X (e :: es) g) (hg : Gl X "isinstance" := by rfl) (he : starEach (e :: es) X.env = (false, eval e X.env) :: starEach es X.env := by first | exact st_cons rfl | rfl) (hpl : (backTo pos (starEach es X.env)).any (·.1) = false := by first | exact st_plain rfl | rfl) : DE X (.Call (.Name "isinstance" p) (e :: es) [] pos) (fCall bIsi g) := de_callB call_isi rn_isi hm boot_isinstance ha hg (by decide) (by decide) he hpl
theorem de_repr (hu : Up X k) (hm : X.mg "repr" = none) (ha : DA X (e :: es) g) (hg : Gl X "repr" := by rfl) (he : starEach (e :: es) X.env = (false, eval e X.env) :: starEach es X.env := by first | exact st_cons rfl | rfl) (hpl : (backTo pos (starEach es X.env)).any (·.1) = false := by first | exact st_plain rfl | rfl) : DE X (.Call (.Name "repr" p) (e :: es) [] pos) (fCall bRepr g) := de_callB (call_repr hu) rn_repr hm boot_repr ha hg (by decide) (by decide) he hpl
end
end Mir

set_option Elab.async false
set_option linter.all false
set_option maxRecDepth 100000
set_option autoImplicit false
set_option maxHeartbeats 1000000
/-! Mir11: a walk over whatever sequence; defs as facts; constants of the module. -/
namespace Mir
open PySem PySem.P PySem.Spec PyProof.Rows L2

def gSeq : D → Option (List D)
  | .lst ds => some ds
  | .fro ds => some ds
  | .tup ds => some ds
  | .str z => some (z.cps.toList.map fun c => .str ⟨#[c]⟩)
  | _ => none
theorem piOr {X : Cx} {tg l : Expr} {w1 w2 : TI} (h1 : PI X tg l w1) (h2 : PI X tg l w2) : PI X tg l fun σ H R => w1 σ H R ∨ w2 σ H R :=
  ⟨fun pins s σ H R I h => h.elim (h1.run pins s σ H R I) (h2.run pins s σ H R I)⟩
theorem di_seq {X : Cx} {tg l : Expr} {f : FE} (h : DE X l f) : DI X tg l (fIt gSeq f) := by
  obtain ⟨w1, p1, r1⟩ := di_list (tg := tg) h
  obtain ⟨w2, p2, r2⟩ := di_tup (tg := tg) h
  obtain ⟨w3, p3, r3⟩ := di_str (tg := tg) h
  refine ⟨_, piOr p1 (piOr p2 p3), ?_⟩
  intro σ β H env S ds S' R re rs hf q
  obtain ⟨d, S1, e1, hf⟩ := bnd_inv hf
  have sub : ∀ g : D → Option (List D), g d = gSeq d → fIt g f env S = some (ds, S') := fun g hg => by
    unfold fIt
    rw [e1]
    show (g d).map _ = _
    rw [hg]
    exact hf
  cases d with
  | lst xs => exact .inl (r1 σ β H env S ds S' R re rs (sub gList rfl) q)
  | fro xs => exact .inl (r1 σ β H env S ds S' R re rs (sub gList rfl) q)
  | tup xs => exact .inr (.inl (r2 σ β H env S ds S' R re rs (sub gTup rfl) q))
  | str z => exact .inr (.inr (r3 σ β H env S ds S' R re rs (sub gStr rfl) q))
  | _ => cases hf
section
variable {P : Program} {w : World} {K : PySem.W.Frag} {mg : Str → Option Value} {base : Heap} {k : Nat} {x qual : Str} {st : Stmt} {f : Addr} {fd : FuncData} {ps : List Str} {F : FF}
theorem def_of (F0 : Fun K x qual st f fd) (hm : mg x = some (.ref f)) (G : FnG P w K mg base k f fd ps F) (hb : Binds K fd ps []) : Def P w K mg base k x f F := ⟨⟨fd, ps, G, F0.kp, hb⟩, hm⟩
theorem def_tab {y : Str} {a : Addr} (D0 : Def P w K mg base k y a F) : ∃ (fd : FuncData) (ps : List Str), FnG P w K mg base k a fd ps F ∧ PySem.W.keepIn K (.ref a) = true ∧ Binds K fd ps [] := D0.ex
end
/-- the defs that may stand in a name: addresses and worths -/
def tabL : List (Addr × FF) → Addr → Option FF
  | [], _ => none
  | (b, F) :: r, a => if a = b then some F else tabL r a
theorem tabL_ok {C : Addr → FF → Prop} : ∀ {l : List (Addr × FF)}, (∀ y ∈ l, C y.1 y.2) → ∀ a F, tabL l a = some F → C a F
  | [], _, _, _, e => by cases e
  | (b, G) :: r, h, a, F, e => by
    unfold tabL at e
    split at e
    · rename_i hab
      subst hab
      cases e
      exact h _ (List.mem_cons_self)
    · exact tabL_ok (fun y hy => h y (List.mem_cons_of_mem _ hy)) a F e
section
variable {X : Cx} {pos : Pos}
theorem de_gint {x : Str} {i : Int} (hm : ∃ t, X.mg x = some (.int i t)) (hg : Gl X x := by rfl) (hd : (x == ("__debug__" : Str)) = false := by decide) : DE X (.Name x pos) (fC (.int i)) := by
  obtain ⟨t, h⟩ := hm
  exact de_glob (v := .int i) h ⟨t, rfl⟩ (fun _ _ => .int i) hg hd
theorem de_gstr {x y : Str} (hm : ∃ t, X.mg x = some (.str y t)) (hg : Gl X x := by rfl) (hd : (x == ("__debug__" : Str)) = false := by decide) : DE X (.Name x pos) (fC (.str y)) := by
  obtain ⟨t, h⟩ := hm
  exact de_glob (v := .str y) h ⟨t, rfl⟩ (fun _ _ => .str y) hg hd
theorem de_gfn {x : Str} {a : Addr} (hm : X.mg x = some (.ref a)) (hg : Gl X x := by rfl) (hd : (x == ("__debug__" : Str)) = false := by decide) : DE X (.Name x pos) (fC (.raw (.ref a))) := de_glob (v := .ref a) hm rfl (fun _ _ => .raw _) hg hd
theorem de_gty {x : Str} {T : String} (hm : X.mg x = none) (hv : bootBuiltins x = some (.type T)) (hg : Gl X x := by rfl) (hn : x ≠ "__name__" := by decide) (hd : (x == ("__debug__" : Str)) = false := by decide) : DE X (.Name x pos) (fC (.raw (.ty T))) := de_bltn (v := .ty T) hm hv rfl hg hn hd
/-- a tuple of texts that the top has written -/
def TupS (K : PySem.W.Frag) (mg : Str → Option Value) (x : Str) (ys : List Str) : Prop := ∃ a, mg x = some (.ref a) ∧ KT K a (ys.map V.str)
theorem tupS_of {K : PySem.W.Frag} {mg : Str → Option Value} {x : Str} {ys : List Str} {a : Addr} {its : List Value} {n : Nat} {od : Option Addr} {sl : Array (Option Value)} (hm : mg x = some (.ref a)) (hl : K.lookup a = some ⟨.type "tuple", od, .seq its.toArray n, sl⟩)
    (hz : its.length ≤ sizeLine := by decide) (hv : PyProof.Rows.StrsAre its ys) : TupS K mg x ys := ⟨a, hm, _, _, _, hl, rfl, rfl, by simpa using hz, by
  simp only [List.toList_toArray]
  clear hl hz
  induction hv with
  | nil => exact .nil
  | cons y t h ih => exact .cons ⟨t, rfl⟩ ih⟩
theorem strsAre_len {vs : List Value} {ys : List Str} (h : PyProof.Rows.StrsAre vs ys) : vs.length = ys.length := by
  induction h with
  | nil => rfl
  | cons y t h ih => simp [ih]
theorem rds_strs {K : PySem.W.Frag} {β : Bt} {H : Hp} : ∀ ys : List Str, RDs K β H (ys.map D.str) (ys.map V.str)
  | [] => .nil
  | y :: ys => .cons (.str y) (rds_strs ys)
theorem de_gtup {x : Str} {ys : List Str} (hm : TupS X.K X.mg x ys) (hg : Gl X x := by rfl) (hd : (x == ("__debug__" : Str)) = false := by decide) : DE X (.Name x pos) (fC (.tup (ys.map .str))) := by
  obtain ⟨a, h1, h2⟩ := hm
  exact de_glob (v := .ref a) h1 rfl (fun _ _ => .ktup h2 (rds_strs ys)) hg hd
end
end Mir

set_option Elab.async false
set_option linter.all false
set_option maxRecDepth 100000
set_option autoImplicit false
set_option maxHeartbeats 1000000
namespace Mir
open PySem PySem.P PySem.Spec PyProof.Rows L2
/-- lists of unlike lengths -/
def rEqLen (K : PySem.W.Frag) : R2 := fun x y H Q => ∃ a b xs ys, x = .ref a ∧ y = .ref b ∧ SqL K H a xs ∧ SqL K H b ys ∧ xs.length ≠ ys.length ∧ Q (.bl false) H
theorem op_eqLen {X : Cx} (hu : X.A.units + 64 < cLine) : OpR X (compareOp .Eq) (rEqLen X.K) := by
  intro pins s σ H x y v u Q I rx ry h
  obtain ⟨a, b, xs, ys, rfl, rfl, h1, h2, hne, q⟩ := h
  cases rx
  cases ry
  obtain ⟨is, r1, p1, _⟩ := I.list h1
  obtain ⟨js, r2, p2, _⟩ := I.list h2
  refine SeqAt.RcAt.lists_lengths p1.isList p2.isList ?_ (by omega) X.prog X.w _ _ ⟨.bl false, H, I, rfl, q⟩
  have e1 := r1.length
  have e2 := r2.length
  simp only [List.size_toArray, bne_iff_ne, ne_eq]
  omega
def oEqLen : F2 := fun x y S => match lsOf S x, lsOf S y with
  | some xs, some ys => if xs.length = ys.length then none else some (.bl false, S)
  | _, _ => none
/-- two texts: nothing is asked of their signs -/
def oEqS (neg : Bool) : F2 := fun x y S => match x, y with
  | .str a, .str b => some (.bl (if neg then !(a == b) else a == b), S)
  | _, _ => none
theorem rd_eqS {K : PySem.W.Frag} : Rd2 K rEq (oEqS false) := by
  intro β H S x y v u d S' Q rs r1 r2 hf q
  unfold oEqS at hf
  split at hf
  · cases hf
    cases r1
    cases r2
    refine ⟨rfl, ?_⟩
    rw [dec_str]
    exact q.now rs (.bl _)
  · cases hf
theorem rd_neS {K : PySem.W.Frag} : Rd2 K rNe (oEqS true) := by
  intro β H S x y v u d S' Q rs r1 r2 hf q
  unfold oEqS at hf
  split at hf
  · cases hf
    cases r1
    cases r2
    refine ⟨rfl, ?_⟩
    rw [dec_str]
    exact q.now rs (.bl _)
  · cases hf
def oEqX : F2 := fun x y S => (oEqS false x y S).or ((oEq x y S).or (oEqLen x y S))
theorem op_eqX {X : Cx} (hu : X.A.units + 64 < cLine) : OpR X (compareOp .Eq) (fun x y H Q => rEq x y H Q ∨ (rEqD X.K x y H Q ∨ rEqLen X.K x y H Q)) := op_eq.or ((op_eqD hu).or (op_eqLen hu))
theorem rd_eqX {K : PySem.W.Frag} : Rd2 K (fun x y H Q => rEq x y H Q ∨ (rEqD K x y H Q ∨ rEqLen K x y H Q)) oEqX := Rd2.or rd_eqS (Rd2.or rd_eq (by
  intro β H S x y v u d S' Q rs r1 r2 hf q
  unfold oEqLen at hf
  split at hf
  · rename_i xs ys e1 e2
    split at hf
    · cases hf
    · rename_i hne
      cases hf
      obtain ⟨a, vs, rfl, h1, h2⟩ := rs.lsq r1 e1
      obtain ⟨b, us, rfl, h3, h4⟩ := rs.lsq r2 e2
      exact ⟨a, b, vs, us, rfl, rfl, h1, h3, by rw [← h2.length, ← h4.length]; exact hne, q.now rs (.bl _)⟩
  · cases hf))
def rNeLen (K : PySem.W.Frag) : R2 := fun x y H Q => ∃ a b xs ys, x = .ref a ∧ y = .ref b ∧ SqL K H a xs ∧ SqL K H b ys ∧ xs.length ≠ ys.length ∧ Q (.bl true) H
theorem op_neLen {X : Cx} (hu : X.A.units + 64 < cLine) : OpR X (compareOp .NotEq) (rNeLen X.K) := by
  intro pins s σ H x y v u Q I rx ry h
  obtain ⟨a, b, xs, ys, rfl, rfl, h1, h2, hne, q⟩ := h
  cases rx
  cases ry
  obtain ⟨is, r1, p1, _⟩ := I.list h1
  obtain ⟨js, r2, p2, _⟩ := I.list h2
  refine SeqAt.RcNeAt.lists_lengths p1.isList p2.isList ?_ (by omega) X.prog X.w _ _ ⟨.bl true, H, I, rfl, q⟩
  have e1 := r1.length
  have e2 := r2.length
  simp only [List.size_toArray, bne_iff_ne, ne_eq]
  omega
def oNeLen : F2 := fun x y S => match lsOf S x, lsOf S y with
  | some xs, some ys => if xs.length = ys.length then none else some (.bl true, S)
  | _, _ => none
def oNeX : F2 := fun x y S => (oEqS true x y S).or ((oNe x y S).or (oNeLen x y S))
theorem op_neX {X : Cx} (hu : X.A.units + 64 < cLine) : OpR X (compareOp .NotEq) (fun x y H Q => rNe x y H Q ∨ (rNeD X.K x y H Q ∨ rNeLen X.K x y H Q)) := op_ne.or ((op_neD hu).or (op_neLen hu))
theorem rd_neX {K : PySem.W.Frag} : Rd2 K (fun x y H Q => rNe x y H Q ∨ (rNeD K x y H Q ∨ rNeLen K x y H Q)) oNeX := Rd2.or rd_neS (Rd2.or rd_ne (by
  intro β H S x y v u d S' Q rs r1 r2 hf q
  unfold oNeLen at hf
  split at hf
  · rename_i xs ys e1 e2
    split at hf
    · cases hf
    · rename_i hne
      cases hf
      obtain ⟨a, vs, rfl, h1, h2⟩ := rs.lsq r1 e1
      obtain ⟨b, us, rfl, h3, h4⟩ := rs.lsq r2 e2
      exact ⟨a, b, vs, us, rfl, rfl, h1, h3, by rw [← h2.length, ← h4.length]; exact hne, q.now rs (.bl _)⟩
  · cases hf))
theorem oEqX_nil {S : Store} : ∀ xs : List D, oEqX (.lst xs) (.lst []) S = some (.bl xs.isEmpty, S)
  | [] => rfl
  | x :: xs => by
    unfold oEqX
    have h2 : oEqLen (.lst (x :: xs)) (.lst []) S = some (.bl false, S) := rfl
    have h1 : oEq (.lst (x :: xs)) (.lst []) S = none ∨ oEq (.lst (x :: xs)) (.lst []) S = some (.bl false, S) := by
      unfold oEq oEqN
      simp only [rdS, D.py, D.pys]
      cases D.py x with
      | none => exact .inl rfl
      | some p =>
        cases D.pys xs with
        | none => exact .inl rfl
        | some ps =>
          simp only [Option.bind_some, Option.map_some]
          split
          · exact .inr rfl
          · exact .inl rfl
    rcases h1 with h1 | h1 <;> rw [h1, h2] <;> rfl
theorem oNeX_nil {S : Store} : ∀ xs : List D, oNeX (.lst xs) (.lst []) S = some (.bl (!xs.isEmpty), S)
  | [] => rfl
  | x :: xs => by
    unfold oNeX
    have h2 : oNeLen (.lst (x :: xs)) (.lst []) S = some (.bl true, S) := rfl
    have h1 : oNe (.lst (x :: xs)) (.lst []) S = none ∨ oNe (.lst (x :: xs)) (.lst []) S = some (.bl true, S) := by
      unfold oNe oEqN
      simp only [rdS, D.py, D.pys]
      cases D.py x with
      | none => exact .inl rfl
      | some p =>
        cases D.pys xs with
        | none => exact .inl rfl
        | some ps =>
          simp only [Option.bind_some, Option.map_some]
          split
          · exact .inr rfl
          · exact .inl rfl
    rcases h1 with h1 | h1 <;> rw [h1, h2] <;> rfl
/-! ### len(set(tuple of texts)) -/
def stepS (acc : List Str) (x : Str) : List Str := if acc.any (· == x) then acc else acc ++ [x]
def dedupS (xs : List Str) : List Str := xs.foldl stepS []
theorem dedup_snoc (xs : List Str) (x : Str) : dedupS (xs ++ [x]) = stepS (dedupS xs) x := by
  unfold dedupS
  rw [List.foldl_append]
  rfl
theorem stepS_any (acc : List Str) (v k : Str) : (stepS acc v).any (· == k) = (acc.any (· == k) || decide (k = v)) := by
  unfold stepS
  by_cases hv : acc.any (· == v) = true
  · rw [if_pos hv]
    by_cases e : k = v
    · subst e
      rw [hv]
      rfl
    · simp [e]
  · rw [if_neg hv, List.any_append]
    by_cases e : k = v
    · subst e
      simp
    · have e2 : (v == k) = false := beq_eq_false_iff_ne.mpr fun z => e z.symm
      simp [e2, e]
theorem stepS_len (acc : List Str) (v : Str) : (stepS acc v).length = if acc.any (· == v) then acc.length else acc.length + 1 := by
  unfold stepS
  split
  · rfl
  · rw [List.length_append]
    rfl
theorem dedup_le : ∀ (xs acc : List Str), (xs.foldl stepS acc).length ≤ acc.length + xs.length
  | [], acc => Nat.le_refl _
  | x :: xs, acc => by
    have ih := dedup_le xs (stepS acc x)
    have h := stepS_len acc x
    rw [List.length_cons]
    show (xs.foldl stepS (stepS acc x)).length ≤ _
    split at h <;> omega
section
variable {P : Program} {w : World} {A : Around}
abbrev TxtSet (P : Program) (w : World) (h : Heap) (a : Addr) (l : List Str) : Prop := h.SetOf (PySem.strKind P w) a (fun y => l.any (· == y)) l.length
theorem TxtSet.next {h : Heap} {a : Addr} {l : List Str} {x : Str} (q : h.SetOf (PySem.strKind P w) a (fun y => l.any (· == y) || decide (y = x)) (if l.any (· == x) then l.length else l.length + 1)) : TxtSet P w h a (stepS l x) :=
  SetOf_congr q (fun y => (stepS_any l x y).symm) (stepS_len l x).symm
theorem TxtSet.keep {h h' : Heap} {a : Addr} {l : List Str} (q : TxtSet P w h a l) (k : ∀ o, h.get? a = some o → h'.get? a = some o) : TxtSet P w h' a l := by
  obtain ⟨ob, es, ep, tb, e1, e2⟩ := q
  exact ⟨ob, es, ep, tb, k ob e1, e2⟩
/-- set.update's own loop over texts -/
theorem upd_texts {R : Result → Shared → Prop} {it : Addr} {ft wt : List Addr} {Gg : Array GenState → Array GenState → Prop} {m : Nat} {Pv : Nat → Value → Prop} {Stt : Nat → Shared → Prop} (Wk : WalksS P w A.in1 it ft wt Gg m Pv Stt) (D : Addr) (hD : D ∉ ft) (xs : List Str) (hm : xs.length = m) (hl : m ≤ 4000)
    (hv : ∀ i v, Pv i v → ∃ x t, xs[i]? = some x ∧ v = .str x t) : ∀ (j i : Nat) (s : Shared), m - i = j → i ≤ m → Stt i s → TxtSet P w s.heap D (dedupS (xs.take i)) →
      (∀ s', Moved (D :: wt) Gg s s' → TxtSet P w s'.heap D (dedupS xs) → R (.ok (.ret .none)) s') → codeAny (model P w) A (.builtin "set.update.loop" ⟨[.ref D, .ref it], []⟩) R s := by
  have hDw : D ∉ wt := fun z => hD (Wk.sub _ z)
  have more : ∀ b ∈ wt, b ∈ D :: wt := fun b z => List.mem_cons_of_mem _ z
  intro j
  induction j with
  | zero =>
    intro i s hj hi hst hs hR
    cases (show i = m by omega)
    refine codeAny_builtin PyProof.Rows.F.entry_set_update_loop ?_
    rw [Around.under_plainId PyProof.Rows.F.plain_set_update_loop _]
    show wpAny (model P w) A.in1 (pyNext (.ref it) >>= _) _ _ s
    refine wpAny_bind (Wk.done s _ _ hst fun s2 mv => ?_)
    show wpAny (model P w) A.in1 (ret Value.none) _ _ s2
    rw [List.take_of_length_le (by omega)] at hs
    exact wpAny_pure (hR s2 (mv.mono more) (hs.keep fun o e => mv.heap D o hDw e))
  | succ j ih =>
    intro i s hj hi hst hs hR
    have lt : i < m := by omega
    refine codeAny_builtin PyProof.Rows.F.entry_set_update_loop ?_
    rw [Around.under_plainId PyProof.Rows.F.plain_set_update_loop _]
    show wpAny (model P w) A.in1 (pyNext (.ref it) >>= _) _ _ s
    refine wpAny_bind (Wk.item i s _ _ lt hst fun v s2 pv st2 mv => ?_)
    obtain ⟨x, t, hx, rfl⟩ := hv i v pv
    have hs2 : TxtSet P w s2.heap D (dedupS (xs.take i)) := hs.keep fun o e => mv.heap D o hDw e
    have room : (dedupS (xs.take i)).length + 1 < scanBound := by
      have h1 : (dedupS (xs.take i)).length ≤ 0 + (xs.take i).length := dedup_le (xs.take i) []
      rw [List.length_take] at h1
      unfold scanBound
      omega
    show wpAny (model P w) A.in1 (holding [Value.str x t] (setAdd D (.str x t)) >>= _) _ _ s2
    refine wpAny_bind (wpAny_holding ?_)
    unfold setAdd
    refine wpAny_holding (wpAny_bind ((PySem.strKind P w).pyHash (k := x) (strKind_is _ _ _ _) ?_))
    refine wpAny_setAddHashed_of (knd := PySem.strKind P w) (s := { s2 with toks := s2.toks + 1 }) (strKind_is _ _ _ _) rfl hs2 room fun h3 only hs3 => ?_
    have nx : TxtSet P w h3 D (dedupS (xs.take (i + 1))) := by
      rw [List.take_add_one, hx]
      show TxtSet P w h3 D (dedupS (xs.take i ++ [x]))
      rw [dedup_snoc]
      exact TxtSet.next hs3
    refine wpAny_pure ⟨plainId_quiet PyProof.Rows.F.plain_set_update_loop _, ih (i + 1) _ (by omega) lt (Wk.frame _ s2 _ _ st2 (Nat.le_succ _) fun b hb o e => ?_) nx fun s4 mv4 hs4 => ?_⟩
    · rw [only.2 b fun z => hD (z ▸ hb)]
      exact e
    · refine hR s4 (Moved.trans Wk.gtrans ((mv.mono more).then_heap (Nat.le_succ _) fun b o hb e => ?_) mv4) hs4
      rw [only.2 b fun z => hb (z ▸ List.mem_cons_self)]
      exact e
end
section
variable {P : Program} {w : World} {A : Around} {E : Value → Shared → Prop}
abbrev setO (led : Bool) : Obj := { cls := .type "set", dict := none, data := .set #[] 0 (.fresh 0 0 led) }
set_option maxHeartbeats 6400000 in
/-- set(tuple of texts) -/
theorem set_texts {s : Shared} {l : Addr} {vs : Array Value} {xs : List Str} {Q : Value → Shared → Prop} (hh : A.handled = none) (ht : s.heap.IsTuple l vs) (hx : PyProof.Rows.StrsAre vs.toList xs) (hn : xs.length ≤ 4000)
    (hq : ∀ (h2 : Heap) (tk : Nat), TxtSet P w h2 s.heap.objs.size (dedupS xs) → (∀ b o, b < s.heap.objs.size → s.heap.get? b = some o → h2.get? b = some o) → Q (.ref s.heap.objs.size) { s with heap := h2, toks := tk }) : wpAny (model P w) A (call (.type "set") [.ref l]) Q E s := by
  obtain ⟨mc, mt, hmro⟩ := PySem.F.called_set.mro
  have cm := PySem.F.called_set.made
  have cs := PySem.F.called_set.sub
  have cn := PySem.F.called_set.notType
  have cc := PySem.F.called_set.canCreate
  have ct := PySem.F.typeCall_set_1 (.ref l)
  refine wpAny_call (codeAny_of_tree ?_)
  show wpAny (model P w) _ (callAny (.type "set") _) _ _ _
  refine wpAny_pure ⟨Code.quiet_builtin _ (by decide +kernel), codeAny_builtin PySem.F.entry_type_call ?_⟩
  rw [Around.under_plain (weight_type_call_type "set" [.ref l] []) rfl]
  repeat (any_goals (first | assumption | wp_step))
  refine codeAny_mono (code_set_new_1 (.ref l) (E := E) (Q₁ := fun ob s1 => ∃ led : Bool, ob = .ref s.heap.objs.size ∧ s1 = { s with heap := s.heap.push (setO led) }) fun led => ⟨led, rfl, rfl⟩) fun r s1 hr => ?_
  rcases r with e | fl
  · exact hr
  · cases fl with
    | ret ob =>
      obtain ⟨led, rfl, rfl⟩ := hr
      have at0 : (s.heap.push (setO led)).get? s.heap.objs.size = some (setO led) := Heap.get?_push_size _ rfl
      have ty0 : Shared.TypeIs { s with heap := s.heap.push (setO led) } (.ref s.heap.objs.size) "set" := ⟨_, at0, rfl⟩
      have il := PySem.F.called_set.init.lookup
      have ib := PySem.F.called_set.init.bind (.ref s.heap.objs.size)
      repeat (any_goals (first | assumption | wp_step))
      refine codeAny_mono (codeAny_call_builtin (R := wants (fun r s2 => r = .none ∧ ∃ h2 tk, s2 = { s with heap := h2, toks := tk } ∧ TxtSet P w h2 s.heap.objs.size (dedupS xs) ∧ (∀ b o, b < s.heap.objs.size → s.heap.get? b = some o → h2.get? b = some o)) E) PySem.F.called_set.init.plain PySem.F.entry_set_init (check_set_init_1 ty0 ?_)) fun r2 s2 hr2 => ?_
      · obtain ⟨lo, hlo, lc, ln, ld⟩ := ht
        obtain ⟨c1, c2, c3, c4⟩ := lo
        simp only at lc ld
        subst lc ld
        have hlo2 : (s.heap.push (setO led)).get? l = some { cls := .type "tuple", dict := c2, data := .seq vs ln, slots := c4 } := Heap.get?_push_of_some _ hlo
        have t1 := F.sub_tuple_set
        have t2 := F.sub_tuple_frozenset
        have t3 : (Value.type "tuple" == Value.type "dict") = false := by decide
        have ht1 : (s.heap.push (setO led)).IsTuple l vs := ⟨_, hlo2, rfl, ln, rfl⟩
        unfold Builtin.«set.__init__» noKeywords Builtin.Frozenset.updateFrom
        generalize hPY : pyIter = PY
        wp_walk
        subst hPY
        refine wpAny_pyIter_tuple ht1 (wpAny_bind (wpAny_runValue ?_))
        have llt : l < s.heap.objs.size := Heap.lt_size hlo
        have zz : (s.heap.push (setO led)).objs.size = s.heap.objs.size + 1 := Heap.size_push ..
        have hl3 : A.in1.in1.in1.handled = none := by simp [hh]
        have nl : l ≠ (s.heap.push (setO led)).objs.size := Nat.ne_of_lt (by rw [zz]; exact Nat.lt_succ_of_lt llt)
        have nf : s.heap.objs.size ∉ [(s.heap.push (setO led)).objs.size, l] := by
          simp only [List.mem_cons, List.mem_singleton, List.not_mem_nil, or_false, not_or]
          exact ⟨Nat.ne_of_lt (by rw [zz]; exact Nat.lt_succ_self _), Nat.ne_of_gt llt⟩
        have hsz : xs.length = vs.size := by
          rw [← strsAre_len hx, Array.length_toList]
        have vals : ∀ (i : Nat) (v : Value), vs[i]? = some v → ∃ x t, xs[i]? = some x ∧ v = .str x t := by
          intro i v hv
          rw [← Array.getElem?_toList] at hv
          clear hq hlo hlo2 ht1 hsz hn nl nf
          revert hv
          generalize vs.toList = us at hx
          induction hx generalizing i with
          | nil => intro hv; simp at hv
          | cons y t hr ih2 =>
            intro hv
            cases i with
            | zero => simp at hv; exact ⟨y, t, rfl, hv.symm⟩
            | succ i => exact ih2 i (by simpa using hv)
        refine upd_texts ((Walks.tuple hl3 _ l nl vs).toS) s.heap.objs.size nf xs hsz (by omega) vals (vs.size - 0) 0 _ (by omega) (Nat.zero_le _) ⟨⟨_, Heap.get?_push_size _ rfl, rfl, rfl⟩, ht1.push _⟩ ?first ?last
        case first =>
          have g0 : ((s.heap.push (setO led)).push { cls := .type "tuple_iterator", data := .fields #[.ref l, .int 0 0] }).get? s.heap.objs.size = some (setO led) := Heap.get?_push_of_some _ at0
          exact SetOf_congr ((PyProof.Rows.setObjOf_fresh (knd := PySem.strKind P w) led).setOf g0 (by unfold scanBound; omega)) (fun _ => rfl) rfl
        case last =>
          intro s3 mv hs3
          obtain ⟨h3, g3, d3, t3, o3⟩ := s3
          cases (show g3 = s.gens from mv.gens)
          cases (show d3 = s.drawn from mv.drawn)
          cases (show o3 = s.os from mv.os)
          show wpAny _ _ _ _ _ _
          refine wpAny_pure ?_
          show wpAny _ _ (ret Value.none) _ _ _
          refine wpAny_pure ⟨rfl, h3, t3, rfl, hs3, fun b o lt e => ?_⟩
          refine mv.heap b o ?_ (Heap.get?_push_of_some _ (Heap.get?_push_of_some _ e))
          simp only [List.mem_cons, List.mem_singleton, List.not_mem_nil, or_false, not_or]
          exact ⟨Nat.ne_of_lt lt, Nat.ne_of_lt (by rw [zz]; exact Nat.lt_succ_of_lt lt)⟩
      · rcases r2 with e2 | fl2
        · exact hr2
        · cases fl2 with
          | ret r3 =>
            obtain ⟨rfl, h2, tk, rfl, p1, p2⟩ := hr2
            repeat (any_goals (first | assumption | wp_step))
            exact hq _ _ p1 p2
          | _ => exact hr2.elim
    | _ => exact hr.elim
end
def oLenSet : F1 := fun x S => match x with
  | .tup ds => (asStrs ds).bind fun xs => if xs.length ≤ 4000 then some (.int (dedupS xs).length, S) else none
  | _ => none
theorem strsAre_vals : ∀ {ys : List Str} {us : List Value}, Vals (ys.map V.str) us → PyProof.Rows.StrsAre us ys
  | [], _, .nil => .nil
  | y :: ys, _, .cons r t => by
    obtain ⟨k, rfl⟩ := r
    exact .cons y k (strsAre_vals t)
theorem de_lenSet {X : Cx} {a : Expr} {fa : FE} {p p2 q pos : Pos} (hm : X.mg "len" = none) (hm2 : X.mg "set" = none) (ha : DE X a fa) (hg : Gl X "len" := by rfl) (hg2 : Gl X "set" := by rfl) (hc : X.calm = true := by rfl)
    (na : starEach [a] X.env = (false, eval a X.env) :: starEach [] X.env := by first | exact st_cons rfl | rfl) : DE X (.Call (.Name "len" p) [.Call (.Name "set" p2) [a] [] q] [] pos) (fUn oLenSet fa) := by
  refine ⟨?_⟩
  intro σ β H env S d S' Q re rs hf qq pins s I
  obtain ⟨x, S1, e1, hf⟩ := bnd_inv hf
  refine wpAny_Call_Name_kw (ld_blt I hg hm boot_len ?_)
  refine PyProof.Rows.callWith_builtin1 (PyProof.Rows.args_cons ?_ rfl) rfl rfl
  refine wpAny_Call_Name_kw (ld_blt I hg2 hm2 boot_set ?_)
  refine PyProof.Rows.callWith_type1 (PyProof.Rows.args_cons (thn (goE.run pins s σ H _ I (ha.run σ β H env S x S1 (fun v H1 => ∃ β1, Step β H β1 H1 ∧ RS X.K β1 H1 S1 ∧ RD X.K β1 H1 x v) re rs e1 fun v β1 H1 st1 rs1 r1 => ⟨β1, st1, rs1, r1⟩)) fun u s1 hu => PyProof.Rows.args_nil ?_) na) na rfl
  obtain ⟨v, H1, I1, ru, β1, st1, rs1, r1⟩ := hu
  unfold oLenSet at hf
  split at hf
  · rename_i ds
    obtain ⟨xs, e2, hf⟩ := Option.bind_eq_some_iff.mp hf
    split at hf
    · rename_i hl
      cases hf
      obtain ⟨l, vs, rfl, h1, h2⟩ := r1.sqt
      have ev := h2.strs e2
      subst ev
      cases ru
      obtain ⟨its, rv, pl, _⟩ := I1.tuple h1
      refine set_texts (I1.ok.hd hc) pl (by simpa using strsAre_vals rv) hl fun h' tk hS k => PyProof.Rows.args_nil ?_
      obtain ⟨o, es, ep, t, ho, hex, hd, _, _, _, hfit, hn⟩ := hS
      have I2 : Inv X pins σ H1 { s1 with heap := h', toks := tk } := I1.kept fun b o e => k b o (Heap.lt_size e) e
      have lz : (dedupS xs).length ≤ 0 + xs.length := dedup_le xs []
      refine call_len_set ho hex hd hfit (by rw [hn] <;> omega) ⟨.int (dedupS xs).length, H1, I2.tok _, ⟨_, by rw [hn]⟩, ?_⟩
      exact qq _ β1 H1 st1 rs1 (.int _)
    · cases hf
  · cases hf
end Mir

set_option Elab.async false
set_option linter.all false
set_option maxRecDepth 100000
set_option autoImplicit false
set_option maxHeartbeats 1000000
/-! Mir13: reckoning with the mirror: no program in sight. -/
namespace Mir
open PySem L2

/-! ### values without places, stores in order -/
mutual
theorem D.blw_mono {n m : Nat} (h : n ≤ m) : ∀ d : D, d.blw n = true → d.blw m = true
  | .non, _ => by simp only [D.blw]
  | .bl _, _ => by simp only [D.blw]
  | .int _, _ => by simp only [D.blw]
  | .str _, _ => by simp only [D.blw]
  | .tup ds, e => by simp only [D.blw] at e ⊢; exact D.blws_mono h ds e
  | .lst ds, e => by simp only [D.blw] at e ⊢; exact D.blws_mono h ds e
  | .fro ds, e => by simp only [D.blw] at e ⊢; exact D.blws_mono h ds e
  | .dic _ ds, e => by simp only [D.blw] at e ⊢; exact D.blws_mono h ds e
  | .loc k, e => by simp only [D.blw, decide_eq_true_eq] at e ⊢; omega
  | .raw _, _ => by simp only [D.blw]
theorem D.blws_mono {n m : Nat} (h : n ≤ m) : ∀ ds : List D, D.blws n ds = true → D.blws m ds = true
  | [], _ => by simp only [D.blws]
  | d :: ds, e => by
    simp only [D.blws, Bool.and_eq_true] at e ⊢
    exact ⟨D.blw_mono h d e.1, D.blws_mono h ds e.2⟩
end
theorem D.blws_all {n : Nat} : ∀ ds : List D, D.blws n ds = true ↔ ∀ d ∈ ds, d.blw n = true
  | [] => by simp [D.blws]
  | d :: ds => by simp [D.blws, D.blws_all ds]
theorem D.blws_app {n : Nat} (ds es : List D) : D.blws n (ds ++ es) = (D.blws n ds && D.blws n es) := by
  rw [Bool.eq_iff_iff, Bool.and_eq_true, D.blws_all, D.blws_all, D.blws_all]
  constructor
  · intro h
    exact ⟨fun d hd => h d (List.mem_append_left _ hd), fun d hd => h d (List.mem_append_right _ hd)⟩
  · rintro ⟨h1, h2⟩ d hd
    rcases List.mem_append.mp hd with q | q
    · exact h1 d q
    · exact h2 d q
theorem O.blw_mono {n m : Nat} (h : n ≤ m) (o : O) (e : o.blw n = true) : o.blw m = true := by
  cases o with
  | lst ds => simp only [O.blw] at e ⊢; exact D.blws_mono h ds e
  | dic ks ds => simp only [O.blw] at e ⊢; exact D.blws_mono h ds e
  | ins C fs ds => simp only [O.blw] at e ⊢; exact D.blws_mono h ds e
def SOk (S : Store) : Prop := S.all (O.blw S.length) = true
theorem SOk.nil : SOk [] := rfl
theorem SOk.snoc {S : Store} {o : O} (h : SOk S) (ho : o.blw 0 = true) : SOk (S ++ [o]) := by
  unfold SOk at *
  rw [List.all_append, Bool.and_eq_true]
  refine ⟨List.all_eq_true.mpr fun x hx => O.blw_mono (by simp) x (List.all_eq_true.mp h x hx), ?_⟩
  simp only [List.all_cons, List.all_nil, Bool.and_true]
  exact O.blw_mono (Nat.zero_le _) o ho
theorem SOk.head {o o' : O} {r : Store} (h : SOk (o :: r)) (ho : o'.blw 0 = true) : SOk (o' :: r) := by
  unfold SOk at *
  simp only [List.all_cons, Bool.and_eq_true, List.length_cons] at *
  exact ⟨O.blw_mono (Nat.zero_le _) o' ho, h.2⟩
theorem closeV_val {S : Store} {d : D} (hS : SOk S) (hd : d.blw 0 = true) : closeV S.length d S = some (d, S) := by
  have hb : d.blw S.length = true := D.blw_mono (Nat.zero_le _) d hd
  unfold closeV
  rw [List.take_length, if_pos (show S.all (O.blw S.length) = true from hS)]
  cases d with
  | loc m => simp [D.blw] at hd
  | _ => simp only [hb, if_true]
theorem closeV_bl {S : Store} {b : Bool} (hS : SOk S) : closeV S.length (.bl b) S = some (.bl b, S) := closeV_val hS (by simp only [D.blw])

/-! ### comprehensions -/
theorem lc_pure {tg : FG} {ts : FT} {elt : FE} {w : Env} {p : D → Bool} {y : D → D} {S : Store} (hS : SOk S) : ∀ (ds acc : List D),
    (∀ d ∈ ds, ∃ e1, ∀ S', SOk S' → tg d w S' = some (e1, S') ∧ ts e1 S' = some (p d, S') ∧ (p d = true → elt e1 S' = some (y d, S') ∧ (y d).blw 0 = true)) →
    D.blws 0 acc = true → acc.length + ds.length ≤ sizeLine → lcGo tg ts elt w S.length ds (S ++ [.lst acc]) = some (S ++ [.lst (acc ++ (ds.filter p).map y)])
  | [], acc, _, _, _ => by simp [lcGo]
  | d :: ds, acc, h, ha, hl => by
    obtain ⟨e1, h1⟩ := h d (List.mem_cons_self)
    have hok : SOk (S ++ [.lst acc]) := hS.snoc (by simpa only [O.blw] using ha)
    obtain ⟨h2, h3, h4⟩ := h1 _ hok
    simp only [List.length_cons] at hl
    unfold lcGo
    rw [h2, bnd_some, h3, bnd_some]
    cases hp : p d with
    | true =>
      obtain ⟨h5, h6⟩ := h4 hp
      rw [if_pos rfl, h5, bnd_some]
      have e : (S ++ [O.lst acc])[S.length]? = some (.lst acc) := by simp
      have e2 : (S ++ [O.lst acc]).set S.length (.lst (acc ++ [y d])) = S ++ [.lst (acc ++ [y d])] := by simp
      have ih := lc_pure hS ds (acc ++ [y d]) (fun d hd => h d (List.mem_cons_of_mem _ hd)) (by rw [D.blws_app, ha]; simp [D.blws, h6]) (by simp; omega)
      simp only [e, e2]
      rw [if_pos (by omega), ih]
      simp [hp]
    | false =>
      rw [if_neg Bool.false_ne_true]
      have ih := lc_pure hS ds acc (fun d hd => h d (List.mem_cons_of_mem _ hd)) ha (by omega)
      rw [ih]
      simp [hp]
theorem fLc_pure {it : FA} {tg : FG} {ts : FT} {elt : FE} {vs : List Nat} {env : Env} {S : Store} {ds : List D} (p : D → Bool) (y : D → D) (hS : SOk S) (hi : it env S = some (ds, S))
    (h : ∀ d ∈ ds, ∃ e1, ∀ S', SOk S' → tg d (wipeE env vs) S' = some (e1, S') ∧ ts e1 S' = some (p d, S') ∧ (p d = true → elt e1 S' = some (y d, S') ∧ (y d).blw 0 = true)) (hl : ds.length ≤ sizeLine) :
    fLc it tg ts elt vs env S = some (.lst ((ds.filter p).map y), S) := by
  have g := lc_pure hS ds [] h rfl (by simpa using hl)
  have hb : D.blws S.length ((ds.filter p).map y) = true := D.blws_mono (Nat.zero_le _) _ ((D.blws_all _).mpr fun d hd => by
    obtain ⟨x, hx, rfl⟩ := List.mem_map.mp hd
    obtain ⟨hx, hp⟩ := List.mem_filter.mp hx
    obtain ⟨e1, h1⟩ := h x hx
    exact ((h1 S hS).2.2 hp).2)
  unfold fLc fCl fLcM
  rw [hi, bnd_some, g]
  show closeV S.length (.loc S.length) (S ++ [.lst ([] ++ (ds.filter p).map y)]) = _
  unfold closeV
  have e1 : (S ++ [O.lst ([] ++ (ds.filter p).map y)]).take S.length = S := by simp
  rw [e1, if_pos (show S.all (O.blw S.length) = true from hS)]
  simp [hb]
theorem fLc_map {it : FA} {tg : FG} {elt : FE} {vs : List Nat} {env : Env} {S : Store} {ds : List D} (y : D → D) (hS : SOk S) (hi : it env S = some (ds, S))
    (h : ∀ d ∈ ds, ∃ e1, ∀ S', SOk S' → tg d (wipeE env vs) S' = some (e1, S') ∧ elt e1 S' = some (y d, S') ∧ (y d).blw 0 = true) (hl : ds.length ≤ sizeLine) :
    fLc it tg tYesF elt vs env S = some (.lst (ds.map y), S) := by
  have e : ds.filter (fun _ => true) = ds := by
    clear h hl hi
    induction ds with
    | nil => rfl
    | cons d ds ih => rw [List.filter_cons_of_pos rfl, ih]
  rw [fLc_pure (fun _ => true) y hS hi (fun d hd => by
    obtain ⟨e1, h1⟩ := h d hd
    exact ⟨e1, fun S' hS' => ⟨(h1 S' hS').1, rfl, fun _ => (h1 S' hS').2⟩⟩) hl, e]
theorem atI_zero {α : Type} (x : α) (r : List α) : atI (x :: r) 0 = some x := atI_nat (j := 0) rfl
/-- a comprehension whose elements are drawn: the first place of the store changes with each -/
theorem lc_draw {tg : FG} {elt : FE} {w : Env} {J : O → Prop} {P : D → Prop} (hJ : ∀ o, J o → o.blw 0 = true) (hP : ∀ y, P y → y.blw 0 = true) : ∀ (ds acc : List D) (o : O) (r : Store),
    (∀ d ∈ ds, ∀ o r, J o → SOk (o :: r) → ∃ y o' e1, P y ∧ J o' ∧ tg d w (o :: r) = some (e1, o :: r) ∧ elt e1 (o :: r) = some (y, o' :: r)) →
    J o → SOk (o :: r) → D.blws 0 acc = true → acc.length + ds.length ≤ sizeLine →
    ∃ ys o', J o' ∧ (∀ y ∈ ys, P y) ∧ ys.length = ds.length ∧ lcGo tg tYesF elt w (r.length + 1) ds (o :: (r ++ [.lst acc])) = some (o' :: (r ++ [.lst (acc ++ ys)]))
  | [], acc, o, r, _, jo, _, _, _ => ⟨[], o, jo, nofun, rfl, by simp [lcGo]⟩
  | d :: ds, acc, o, r, h, jo, hS, ha, hl => by
    have hok : SOk (o :: (r ++ [.lst acc])) := SOk.snoc (S := o :: r) hS (by simpa only [O.blw] using ha)
    obtain ⟨y, o1, e1, py, j1, h1, h2⟩ := h d (List.mem_cons_self) o _ jo hok
    simp only [List.length_cons] at hl
    have hb := hP y py
    obtain ⟨ys, o', j', pys, lys, ih⟩ := lc_draw hJ hP ds (acc ++ [y]) o1 r (fun d hd => h d (List.mem_cons_of_mem _ hd)) j1 (hS.head (hJ _ j1)) (by rw [D.blws_app, ha]; simp [D.blws, hb]) (by simp; omega)
    refine ⟨y :: ys, o', j', fun z hz => ?_, by simp [lys], ?_⟩
    · rcases List.mem_cons.mp hz with rfl | hz
      · exact py
      · exact pys z hz
    · unfold lcGo
      rw [h1, bnd_some]
      show bnd (some (true, _)) _ = _
      rw [bnd_some, if_pos rfl, h2, bnd_some]
      have e : (o1 :: (r ++ [O.lst acc]))[r.length + 1]? = some (.lst acc) := by simp
      have e2 : (o1 :: (r ++ [O.lst acc])).set (r.length + 1) (.lst (acc ++ [y])) = o1 :: (r ++ [.lst (acc ++ [y])]) := by simp
      simp only [e, e2]
      rw [if_pos (by omega), ih]
      simp
theorem fLc_draw {it : FA} {tg : FG} {elt : FE} {vs : List Nat} {env : Env} {J : O → Prop} {P : D → Prop} {ds : List D} {o o1 : O} {r : Store} (hJ : ∀ o, J o → o.blw 0 = true) (hP : ∀ y, P y → y.blw 0 = true)
    (hi : it env (o1 :: r) = some (ds, o :: r)) (jo : J o) (hS : SOk (o :: r)) (hl : ds.length ≤ sizeLine)
    (h : ∀ d ∈ ds, ∀ o r, J o → SOk (o :: r) → ∃ y o' e1, P y ∧ J o' ∧ tg d (wipeE env vs) (o :: r) = some (e1, o :: r) ∧ elt e1 (o :: r) = some (y, o' :: r)) :
    ∃ ys o', J o' ∧ (∀ y ∈ ys, P y) ∧ ys.length = ds.length ∧ fLc it tg tYesF elt vs env (o1 :: r) = some (.lst ys, o' :: r) := by
  obtain ⟨ys, o', j', pys, lys, g⟩ := lc_draw (w := wipeE env vs) hJ hP ds [] o r h jo hS rfl (by simpa using hl)
  refine ⟨ys, o', j', pys, lys, ?_⟩
  have hb : D.blws (r.length + 1) ys = true := D.blws_mono (Nat.zero_le _) _ ((D.blws_all _).mpr fun d hd => hP d (pys d hd))
  have hok : SOk (o' :: r) := hS.head (hJ _ j')
  unfold fLc fCl fLcM
  rw [hi, bnd_some]
  have g' : lcGo tg tYesF elt (wipeE env vs) (o :: r).length ds (o :: r ++ [.lst []]) = some (o' :: (r ++ [.lst ([] ++ ys)])) := g
  rw [g']
  show closeV (r.length + 1) (.loc (r.length + 1)) (o' :: (r ++ [.lst ([] ++ ys)])) = _
  unfold closeV
  have e1 : (o' :: (r ++ [O.lst ([] ++ ys)])).take (r.length + 1) = o' :: r := by simp
  rw [e1]
  have hok2 : (o' :: r).all (O.blw (r.length + 1)) = true := hok
  rw [if_pos hok2]
  simp [hb]

/-! ### statements -/
theorem run_cons {f g : FS} {env env' : Env} {S S' : Store} (h : f env S = some (.nx env', S')) : sCons f g env S = g env' S' := by
  unfold sCons
  rw [h]
  rfl
theorem run_set {f : FE} {env : Env} {S S' : Store} {d : D} {i : Nat} (h : f env S = some (d, S')) : sSet i f env S = some (.nx (env.set i (some d)), S') := by
  unfold sSet
  rw [h]
  rfl
theorem run_ifF {c : FT} {f g : FS} {env : Env} {S S' : Store} (h : c env S = some (false, S')) : sIf c f g env S = g env S' := by
  unfold sIf
  rw [h]
  rfl
theorem run_ifT {c : FT} {f g : FS} {env : Env} {S S' : Store} (h : c env S = some (true, S')) : sIf c f g env S = f env S' := by
  unfold sIf
  rw [h]
  rfl
end Mir

set_option Elab.async false
set_option linter.all false
set_option maxRecDepth 100000
set_option autoImplicit false
set_option maxHeartbeats 1000000
/-! Mir14: the mirror gone through from the front: what is asked ahead so that Q holds behind. -/
namespace Mir
open PySem L2

/-- x is a value and a store of which Q holds -/
def Wd {α : Type} (x : Option (α × Store)) (Q : α → Store → Prop) : Prop := ∃ a S, x = some (a, S) ∧ Q a S
section
variable {α β : Type} {x : Option (α × Store)} {Q : α → Store → Prop}
theorem wd_some {a : α} {S : Store} : Wd (some (a, S)) Q ↔ Q a S :=
  ⟨fun ⟨_, _, e, q⟩ => by cases e; exact q, fun q => ⟨_, _, rfl, q⟩⟩
theorem wd_none : Wd (none : Option (α × Store)) Q ↔ False := ⟨fun ⟨_, _, e, _⟩ => (nomatch e), False.elim⟩
theorem wd_of {a : α} {S : Store} (e : x = some (a, S)) (q : Q a S) : Wd x Q := ⟨a, S, e, q⟩
theorem wd_eq {a : α} {S : Store} (e : x = some (a, S)) : Wd x Q ↔ Q a S := by
  rw [e]
  exact wd_some
theorem of_wd {a : α} {S : Store} (h : Wd x fun b S' => b = a ∧ S' = S) : x = some (a, S) := by
  obtain ⟨_, _, e, rfl, rfl⟩ := h
  exact e
theorem wd_mono {P : α → Store → Prop} (h : Wd x P) (k : ∀ a S, P a S → Q a S) : Wd x Q := by
  obtain ⟨a, S, e, p⟩ := h
  exact ⟨a, S, e, k a S p⟩
theorem wd_bnd {k : α → Store → Option (β × Store)} {R : β → Store → Prop} : Wd (bnd x k) R ↔ Wd x fun a S => Wd (k a S) R := by
  constructor
  · rintro ⟨b, S, e, q⟩
    obtain ⟨a, S1, e1, e2⟩ := bnd_inv e
    exact ⟨a, S1, e1, b, S, e2, q⟩
  · rintro ⟨a, S1, rfl, b, S, e2, q⟩
    exact ⟨b, S, e2, q⟩
theorem wd_if {c : Prop} [Decidable c] {y : Option (α × Store)} : Wd (if c then x else y) Q ↔ (if c then Wd x Q else Wd y Q) := by
  split <;> rfl
theorem wd_guard {c : Prop} [Decidable c] : Wd (if c then x else none) Q ↔ c ∧ Wd x Q := by
  split
  · rename_i h
    exact ⟨fun q => ⟨h, q⟩, fun q => q.2⟩
  · rename_i h
    exact ⟨fun q => (wd_none.mp q).elim, fun q => absurd q.1 h⟩
theorem wd_asB {y : Option (D × Store)} {R : Bool → Store → Prop} : Wd (asB y) R ↔ Wd y fun d S => ∃ b, d = .bl b ∧ R b S := by
  constructor
  · rintro ⟨b, S, e, q⟩
    exact ⟨.bl b, S, asB_inv e, b, rfl, q⟩
  · rintro ⟨d, S, rfl, b, rfl, q⟩
    exact ⟨b, S, rfl, q⟩
theorem wd_asI {y : Option (D × Store)} {R : Int → Store → Prop} : Wd (asI y) R ↔ Wd y fun d S => ∃ b, d = .int b ∧ R b S := by
  constructor
  · rintro ⟨b, S, e, q⟩
    exact ⟨.int b, S, asI_inv e, b, rfl, q⟩
  · rintro ⟨d, S, rfl, b, rfl, q⟩
    exact ⟨b, S, rfl, q⟩
end
section
variable {env : Env} {S : Store} {Q : D → Store → Prop} {QT : Bool → Store → Prop} {QA : List D → Store → Prop} {QS : Rt → Store → Prop} {f g h : FE} {o o' : F2} {o1 : F1} {F : FF} {ga gb : FA} {t u : FT} {a b : FS} {d : D} {i : Nat}
theorem w_c : Wd (fC d env S) Q ↔ Q d S := wd_some
theorem w_var {x : D} (e : env[i]? = some (some x)) : Wd (fVar i env S) Q ↔ Q x S := by
  unfold fVar
  rw [e]
  exact wd_some
theorem w_op : Wd (fOp o f g env S) Q ↔ Wd (f env S) fun x S1 => Wd (g env S1) fun y S2 => Wd (o x y S2) Q := by
  unfold fOp
  simp only [wd_bnd]
theorem w_un : Wd (fUn o1 f env S) Q ↔ Wd (f env S) fun x S1 => Wd (o1 x S1) Q := by
  unfold fUn
  simp only [wd_bnd]
theorem w_call : Wd (fCall F ga env S) Q ↔ Wd (ga env S) fun xs S1 => Wd (F xs S1) Q := by
  unfold fCall
  simp only [wd_bnd]
theorem w_nil : Wd (fNil env S) QA ↔ QA [] S := wd_some
theorem w_consA : Wd (fCons f ga env S) QA ↔ Wd (f env S) fun x S1 => Wd (ga env S1) fun xs S2 => QA (x :: xs) S2 := by
  unfold fCons
  simp only [wd_bnd, wd_some]
theorem w_tup : Wd (fTup ga env S) Q ↔ Wd (ga env S) fun xs S1 => xs.length ≤ sizeLine ∧ Q (.tup xs) S1 := by
  unfold fTup
  simp only [wd_bnd, wd_guard, wd_some]
theorem w_lst : Wd (fLst ga env S) Q ↔ Wd (ga env S) fun xs S1 => xs.length ≤ sizeLine ∧ Q (.lst xs) S1 := by
  unfold fLst
  simp only [wd_bnd, wd_guard, wd_some]
theorem w_lstM : Wd (fLstM ga env S) Q ↔ Wd (ga env S) fun xs S1 => xs.length ≤ sizeLine ∧ Q (.loc S1.length) (S1 ++ [.lst xs]) := by
  unfold fLstM
  simp only [wd_bnd, wd_guard, wd_some]
theorem w_andV : Wd (fAndV f g env S) Q ↔ Wd (f env S) fun x S1 => ∃ c, x = .bl c ∧ (if c then Wd (g env S1) Q else Q (.bl false) S1) := by
  unfold fAndV
  simp only [wd_bnd, wd_asB, wd_if, wd_some]
theorem w_orV : Wd (fOrV f g env S) Q ↔ Wd (f env S) fun x S1 => ∃ c, x = .bl c ∧ (if c then Q (.bl true) S1 else Wd (g env S1) Q) := by
  unfold fOrV
  simp only [wd_bnd, wd_asB, wd_if, wd_some]
theorem w_notV : Wd (fNotV f env S) Q ↔ Wd (f env S) fun x S1 => ∃ c, x = .bl c ∧ Q (.bl (!c)) S1 := by
  unfold fNotV
  simp only [wd_bnd, wd_asB, wd_some]
theorem w_ifE : Wd (fIf t f g env S) Q ↔ Wd (t env S) fun c S1 => if c then Wd (f env S1) Q else Wd (g env S1) Q := by
  unfold fIf
  simp only [wd_bnd, wd_if]
theorem w_chain : Wd (fChain o o' f g h env S) Q ↔ Wd (f env S) fun x S1 => Wd (g env S1) fun y S2 => Wd (o x y S2) fun k S3 => ∃ c, k = .bl c ∧ (if c then (Wd (h env S3) fun z S4 => Wd (o' y z S4) Q) else Q (.bl false) S3) := by
  unfold fChain
  simp only [wd_bnd, wd_asB, wd_if, wd_some]
theorem w_B : Wd (fB f env S) QT ↔ Wd (f env S) fun x S1 => ∃ c, x = .bl c ∧ QT c S1 := by
  unfold fB
  simp only [wd_asB]
theorem w_tr : Wd (fTr f env S) QT ↔ Wd (f env S) fun x S1 => ∃ c, truD S1 x = some c ∧ QT c S1 := by
  unfold fTr
  simp only [wd_bnd]
  constructor
  · rintro ⟨x, S1, e, c, S2, e2, q⟩
    obtain ⟨k, e3, e4⟩ := Option.map_eq_some_iff.mp e2
    cases e4
    exact ⟨x, _, e, _, e3, q⟩
  · rintro ⟨x, S1, e, c, e2, q⟩
    exact ⟨x, S1, e, c, S1, by rw [e2]; rfl, q⟩
theorem w_and : Wd (fAnd t u env S) QT ↔ Wd (t env S) fun c S1 => if c then Wd (u env S1) QT else QT false S1 := by
  unfold fAnd
  simp only [wd_bnd, wd_if, wd_some]
theorem w_or : Wd (fOr t u env S) QT ↔ Wd (t env S) fun c S1 => if c then QT true S1 else Wd (u env S1) QT := by
  unfold fOr
  simp only [wd_bnd, wd_if, wd_some]
theorem w_not : Wd (fNot t env S) QT ↔ Wd (t env S) fun c S1 => QT (!c) S1 := by
  unfold fNot
  simp only [wd_bnd, wd_some]
theorem w_yes : Wd (tYesF env S) QT ↔ QT true S := wd_some
theorem w_sl {l r : FO} : Wd (fSl f l r env S) Q ↔ Wd (f env S) fun x S1 => Wd (l env S1) fun y S2 => Wd (r env S2) fun z S3 => Wd (oSl x y z S3) Q := by
  unfold fSl
  simp only [wd_bnd]
theorem w_oN {R : Option Int → Store → Prop} : Wd (foNone env S) R ↔ R none S := wd_some
theorem w_oS {R : Option Int → Store → Prop} : Wd (foSome f env S) R ↔ Wd (f env S) fun x S1 => ∃ k, x = .int k ∧ R (some k) S1 := by
  unfold foSome
  simp only [wd_bnd, wd_asI, wd_some]
theorem w_rng1 : Wd (fRng1 f env S) QA ↔ Wd (f env S) fun x S1 => ∃ k, x = .int k ∧ okR k = true ∧ QA (rng 0 k) S1 := by
  unfold fRng1
  simp only [wd_bnd, wd_asI, wd_guard, wd_some]
/-! statements -/
theorem w_sN : Wd (sNil env S) QS ↔ QS (.nx env) S := wd_some
theorem w_seq : Wd (sCons a b env S) QS ↔ Wd (a env S) fun r S1 => (match r with
    | .nx e => Wd (b e S1) QS
    | r => QS r S1) := by
  unfold sCons
  rw [wd_bnd]
  constructor
  · rintro ⟨r, S1, e, q⟩
    refine ⟨r, S1, e, ?_⟩
    cases r with
    | nx e => exact q
    | _ => exact wd_some.mp q
  · rintro ⟨r, S1, e, q⟩
    refine ⟨r, S1, e, ?_⟩
    cases r with
    | nx e => exact q
    | _ => exact wd_some.mpr q
theorem w_ret : Wd (sRet f env S) QS ↔ Wd (f env S) fun d S1 => QS (.rt d) S1 := by
  unfold sRet
  simp only [wd_bnd, wd_some]
theorem w_retN : Wd (sRetN env S) QS ↔ QS (.rt .non) S := wd_some
theorem w_set : Wd (sSet i f env S) QS ↔ Wd (f env S) fun d S1 => QS (.nx (env.set i (some d))) S1 := by
  unfold sSet
  simp only [wd_bnd, wd_some]
theorem w_if : Wd (sIf t a b env S) QS ↔ Wd (t env S) fun c S1 => if c then Wd (a env S1) QS else Wd (b env S1) QS := by
  unfold sIf
  simp only [wd_bnd, wd_if]
theorem w_drop : Wd (sDrop f env S) QS ↔ Wd (f env S) fun _ S1 => QS (.nx env) S1 := by
  unfold sDrop
  simp only [wd_bnd, wd_some]
theorem w_par {j : Nat} : Wd (sPar i j ga env S) QS ↔ Wd (ga env S) fun ds S1 => ∃ x y, ds = [x, y] ∧ QS (.nx ((env.set i (some x)).set j (some y))) S1 := by
  unfold sPar
  rw [wd_bnd]
  constructor
  · rintro ⟨ds, S1, e, r, S2, e2, q⟩
    split at e2
    · cases e2
      exact ⟨_, _, e, _, _, rfl, q⟩
    · cases e2
  · rintro ⟨ds, S1, e, x, y, rfl, q⟩
    exact ⟨_, _, e, _, _, rfl, q⟩
theorem w_sub : Wd (sSub f g h env S) QS ↔ Wd (f env S) fun v S1 => Wd (g env S1) fun o S2 => Wd (h env S2) fun i S3 => ∃ S4, ixSet S3 o i v = some S4 ∧ QS (.nx env) S4 := by
  unfold sSub
  simp only [wd_bnd]
  have e : ∀ (S3 : Store) (o i v : D), Wd ((ixSet S3 o i v).map fun S4 => (Rt.nx env, S4)) QS ↔ ∃ S4, ixSet S3 o i v = some S4 ∧ QS (.nx env) S4 := by
    intro S3 o i v
    constructor
    · rintro ⟨r, S4, e, q⟩
      obtain ⟨k, e3, e4⟩ := Option.map_eq_some_iff.mp e
      cases e4
      exact ⟨_, e3, q⟩
    · rintro ⟨S4, e, q⟩
      exact ⟨_, S4, by rw [e]; rfl, q⟩
  simp only [e]
theorem w_fn {c : Nat → D → Store → Option (D × Store)} {n m : Nat} {B : FS} {ds : List D} (hl : ds.length = m) (h : Wd (B (ds.map some ++ List.replicate (n - m) none) S) fun r S1 => ∃ d, (r = .rt d ∨ ((∃ e, r = .nx e) ∧ d = .non)) ∧ Wd (c S.length d S1) Q) : Wd (fnC c n m B ds S) Q := by
  obtain ⟨r, S1, e, d, hr, d2, S2, e2, q⟩ := h
  refine ⟨d2, S2, ?_, q⟩
  unfold fnC
  rw [if_pos hl, e]
  rcases hr with rfl | ⟨⟨e', rfl⟩, rfl⟩
  · exact e2
  · exact e2
/-- a for loop by what holds between two turns -/
theorem w_for {it : FA} {tg : FG} {body : FS} {ds : List D} {S1 : Store} (J : Env → Store → Prop) (hi : it env S = some (ds, S1)) (h0 : J env S1)
    (hs : ∀ d ∈ ds, ∀ e S2, J e S2 → Wd (tg d e S2) fun e1 S3 => Wd (body e1 S3) fun r S4 => ∃ e2, r = .nx e2 ∧ J e2 S4) (hq : ∀ e S2, J e S2 → QS (.nx e) S2) : Wd (sFor it tg body env S) QS := by
  unfold sFor
  rw [hi, bnd_some]
  clear hi
  induction ds generalizing env S1 with
  | nil => exact wd_some.mpr (hq env S1 h0)
  | cons d ds ih =>
    obtain ⟨e1, S3, h1, r, S4, h2, e2, rfl, j⟩ := hs d (List.mem_cons_self) env S1 h0
    unfold forGo
    rw [h1, bnd_some, h2, bnd_some]
    exact ih j fun x hx => hs x (List.mem_cons_of_mem _ hx)
end
end Mir

set_option Elab.async false
set_option linter.all false
set_option maxRecDepth 100000
set_option autoImplicit false
set_option maxHeartbeats 1000000
/-! Mir15: objects of own classes: attributes, methods, making. -/
namespace Mir
open PySem PySem.P PySem.Spec PyProof.Rows L2

def lookD (f : Str) : List Str → List D → Option D
  | n :: ns, d :: ds => if f = n then some d else lookD f ns ds
  | _, _ => none
def putN (f : Str) : List Str → List Str
  | [] => [f]
  | n :: ns => if n = f then n :: ns else n :: putN f ns
def putDs (f : Str) (y : D) : List Str → List D → List D
  | n :: ns, d :: ds => if n = f then y :: ds else d :: putDs f y ns ds
  | _, _ => [y]
section
variable {K : PySem.W.Frag} {β : Bt} {H : Hp} {f : Str}
theorem look_ok : ∀ {fs : List (Str × V)} {ds : List D} {d : D}, RDs K β H ds (fs.map (·.2)) → lookD f (fs.map (·.1)) ds = some d → ∃ v, fs.lookup f = some v ∧ RD K β H d v
  | [], _, _, r, e => by simp [lookD] at e
  | (n, v) :: fs, _, d, r, e => by
    cases r with
    | cons r1 r2 =>
      have e : (if f = n then some _ else lookD f (fs.map (·.1)) _) = some d := e
      by_cases h : f = n
      · rw [if_pos h] at e
        cases e
        exact ⟨v, by rw [List.lookup_cons, beq_iff_eq.mpr h], r1⟩
      · rw [if_neg h] at e
        obtain ⟨w, e2, rw⟩ := look_ok r2 e
        exact ⟨w, by rw [List.lookup_cons, beq_eq_false_iff_ne.mpr h]; exact e2, rw⟩
theorem look_no : ∀ {fs : List (Str × V)}, f ∉ fs.map (·.1) → fs.lookup f = none
  | [], _ => rfl
  | (n, v) :: fs, h => by
    rw [List.map_cons, List.mem_cons, not_or] at h
    rw [List.lookup_cons, beq_eq_false_iff_ne.mpr h.1]
    exact look_no h.2
theorem putN_ok : ∀ (fs : List (Str × V)) (v : V), (putF f v fs).map (·.1) = putN f (fs.map (·.1))
  | [], v => rfl
  | (n, x) :: fs, v => by
    show ((if n = f then (n, v) :: fs else (n, x) :: putF f v fs)).map (·.1) = (if n = f then n :: fs.map (·.1) else n :: putN f (fs.map (·.1)))
    split
    · rfl
    · rw [List.map_cons, putN_ok fs v]
theorem putDs_ok {y : D} {v : V} (ry : RD K β H y v) : ∀ {fs : List (Str × V)} {ds : List D}, RDs K β H ds (fs.map (·.2)) → RDs K β H (putDs f y (fs.map (·.1)) ds) ((putF f v fs).map (·.2))
  | [], _, r => by cases r; exact .cons ry .nil
  | (n, x) :: fs, _, r => by
    cases r with
    | @cons d _ ds _ r1 r2 =>
      show RDs K β H (if n = f then y :: ds else d :: putDs f y (fs.map (·.1)) ds) ((if n = f then (n, v) :: fs else (n, x) :: putF f v fs).map (·.2))
      split
      · exact .cons ry r2
      · exact .cons r1 (putDs_ok ry r2)
end
/-- an object of the class C at the place n -/
def insAt (C : Addr) (S : Store) : D → Option (Nat × List Str × List D)
  | .loc n => (match S[n]? with
    | some (.ins C' ns ds) => if C' = C then some (n, ns, ds) else none
    | _ => none)
  | _ => none
theorem insAt_ok {K : PySem.W.Frag} {β : Bt} {H : Hp} {S : Store} {C : Addr} {d : D} {v : V} {n : Nat} {ns : List Str} {ds : List D} (rs : RS K β H S) (r : RD K β H d v) (e : insAt C S d = some (n, ns, ds)) :
    ∃ a dx fs, v = .ref a ∧ β n = some a ∧ S[n]? = some (.ins C ns ds) ∧ H a = some (.ins C dx fs) ∧ fs.map (·.1) = ns ∧ RDs K β H ds (fs.map (·.2)) := by
  unfold insAt at e
  split at e
  · rename_i m
    split at e
    · rename_i C' ns' ds' hm
      split at e
      · rename_i hC
        subst hC
        cases e
        obtain ⟨a, u, h1, h2, h3⟩ := rs.obj _ _ hm
        cases r with
        | loc hl =>
          rw [h1] at hl
          cases hl
          cases h3 with
          | ins e3 r3 => exact ⟨_, _, _, rfl, h1, hm, h2, e3, r3⟩
      · cases e
    · cases e
  · cases e
def fFld (C : Addr) (f : Str) (fe : FE) : FE := fun env S => bnd (fe env S) fun o S1 => (insAt C S1 o).bind fun x => (lookD f x.2.1 x.2.2).map fun d => (d, S1)
def setIns (C : Addr) (f : Str) (y o : D) (S : Store) : Option Store := (insAt C S o).bind fun x => if x.2.1.length < 1000 then some (S.set x.1 (.ins C (putN f x.2.1) (putDs f y x.2.1 x.2.2))) else none
def sFldM (C : Addr) (f : Str) (fo fv : FE) : FS := fun env S => bnd (fv env S) fun y S1 => bnd (fo env S1) fun o S2 => (setIns C f y o S2).map fun S3 => (.nx env, S3)
def sFldAugM (C : Addr) (f : Str) (op : F2) (fo fv : FE) : FS := fun env S => bnd (fo env S) fun o S1 => (insAt C S1 o).bind fun x => (lookD f x.2.1 x.2.2).bind fun d => bnd (fv env S1) fun y S2 => bnd (op d y S2) fun z S3 => (setIns C f z o S3).map fun S4 => (.nx env, S4)
/-- o.m(..): the method is worth F -/
def fMeth (C : Addr) (m : Str) (F : FF) (fo : FE) (g : FA) : FE := fun env S => bnd (fo env S) fun o S1 => (insAt C S1 o).bind fun x => if m ∈ x.2.1 then none else bnd (g env S1) fun xs S2 => F (o :: xs) S2
/-- C(..): its __init__ is worth F -/
def fMake (C : Addr) (F : FF) (g : FA) : FE := fun env S => bnd (g env S) fun xs S1 => match F (.loc S1.length :: xs) (S1 ++ [.ins C [] []]) with
  | some (.non, S2) => some (.loc S1.length, S2)
  | _ => none
theorem setIns_ok {K : PySem.W.Frag} {β : Bt} {H : Hp} {S S' : Store} {C : Addr} {f : Str} {y o : D} {v ov : V} (rs : RS K β H S) (ro : RD K β H o ov) (ry : RD K β H y v) (e : setIns C f y o S = some S') :
    ∃ a dx fs, ov = .ref a ∧ H a = some (.ins C dx fs) ∧ fs.length < 1000 ∧ Step β H β (upd H a (.ins C dx (putF f v fs))) ∧ RS K β (upd H a (.ins C dx (putF f v fs))) S' := by
  unfold setIns at e
  obtain ⟨⟨n, ns, ds⟩, e1, e⟩ := Option.bind_eq_some_iff.mp e
  split at e
  · rename_i hl
    cases e
    obtain ⟨a, dx, fs, rfl, h1, h2, h3, rfl, h5⟩ := insAt_ok rs ro e1
    refine ⟨a, dx, fs, rfl, h3, by simpa using hl, .write h1, rs.write h1 ?_⟩
    exact .ins (putN_ok fs v) (putDs_ok ry h5)
  · cases e
section
variable {X : Cx} {C : Addr} {f m : Str} {pos pos' apos tpos : Pos} {e o value : Expr} {es : List Expr} {fe fo fv : FE} {g : FA}
theorem de_fld (c : Cls X.K C) (n : NoAttr X.K C f) (he : DE X e fe) (hb : attributeBase e f X.env (eval e X.env) = eval e X.env := by rfl) : DE X (.Attribute e f pos) (fFld C f fe) := de_of (pe_fld goE hb) (by
  intro σ β H env S d S' Q re rs hf q
  obtain ⟨x, S1, e1, hf⟩ := bnd_inv hf
  obtain ⟨⟨n', ns, ds⟩, e2, hf⟩ := Option.bind_eq_some_iff.mp hf
  obtain ⟨y, e3, e4⟩ := Option.map_eq_some_iff.mp hf
  cases e4
  refine he.run σ β H env S x S' _ re rs e1 fun v β1 H1 st1 rs1 r1 => ?_
  obtain ⟨a, dx, fs, rfl, h1, h2, h3, rfl, h5⟩ := insAt_ok rs1 r1 e2
  obtain ⟨w, h6, h7⟩ := look_ok h5 e3
  exact ⟨a, C, dx, fs, w, rfl, h3, c, n, h6, (q.step st1).now rs1 h7⟩)
theorem ds_fld (c : Cls X.K C) (n : NoAttr X.K C f) (ho : DE X o fo) (hv : DE X value fv) (hs : swapsWith value (some (.Attribute o f pos')) pos.line X.env = pure false := by rfl) : DS X (.Assign [.Attribute o f pos'] value pos) (sFldM C f fo fv) := ds_of (ps_fld goE goE hs) (by
  intro σ β H env S d S' N re rs hf q
  obtain ⟨y, S1, e1, hf⟩ := bnd_inv hf
  obtain ⟨x, S2, e2, hf⟩ := bnd_inv hf
  obtain ⟨S3, e3, e4⟩ := Option.map_eq_some_iff.mp hf
  cases e4
  refine hv.run σ β H env S y S1 _ re rs e1 fun v β1 H1 st1 rs1 r1 => ?_
  refine ho.run σ β1 H1 env S1 x S2 _ (re.step st1) rs1 e2 fun ov β2 H2 st2 rs2 r2 => ?_
  obtain ⟨a, dx, fs, rfl, h1, h2, h3, h4⟩ := setIns_ok rs2 r2 (RD.step st2 _ _ r1) e3
  refine ⟨a, C, dx, fs, rfl, h1, c, n, h2, ?_⟩
  have st := (st1.trans st2).trans h3
  exact q σ β2 _ st h4 (re.step st))
theorem ds_fldaug {op : Operator} {r : R2} {op2 : F2} (c : Cls X.K C) (n : NoAttr X.K C f) (hop : OpR X (inplaceOp op) r) (hr : Rd2 X.K r op2) (ho : DE X o fo) (hv : DE X value fv) : DS X (.AugAssign (.Attribute o f tpos) op value pos) (sFldAugM C f op2 fo fv) :=
  ds_of (ps_fldaug goE goE (fun pins s σ H x y u v Q I rx ry h => hop pins s σ H x y u v Q I rx ry h)) (by
  intro σ β H env S d S' N re rs hf q
  obtain ⟨x, S1, e1, hf⟩ := bnd_inv hf
  obtain ⟨⟨n', ns, ds⟩, e2, hf⟩ := Option.bind_eq_some_iff.mp hf
  obtain ⟨d0, e3, hf⟩ := Option.bind_eq_some_iff.mp hf
  obtain ⟨y, S2, e4, hf⟩ := bnd_inv hf
  obtain ⟨z, S3, e5, hf⟩ := bnd_inv hf
  obtain ⟨S4, e6, e7⟩ := Option.map_eq_some_iff.mp hf
  cases e7
  refine ho.run σ β H env S x S1 _ re rs e1 fun v β1 H1 st1 rs1 r1 => ?_
  obtain ⟨a, dx, fs, rfl, h1, h2, h3, rfl, h5⟩ := insAt_ok rs1 r1 e2
  obtain ⟨w, h6, h7⟩ := look_ok h5 e3
  refine ⟨a, C, dx, fs, w, rfl, h3, c, n, h6, ?_⟩
  refine hv.run σ β1 H1 env S1 y S2 _ (re.step st1) rs1 e4 fun u β2 H2 st2 rs2 r2 => ?_
  refine hr β2 H2 S2 d0 y w u z S3 _ rs2 (RD.step st2 _ _ h7) r2 e5 fun z' β3 H3 st3 rs3 r3 => ?_
  obtain ⟨a', dx', fs', ea, k1, k2, k3, k4⟩ := setIns_ok rs3 (RD.step (st2.trans st3) _ _ r1) r3 e6
  cases ea
  refine ⟨dx', fs', k1, k2, ?_⟩
  have st := ((st1.trans st2).trans st3).trans k3
  exact q σ β3 _ st k4 (re.step st))
/-- a method that may be called -/
structure MDef (P : Program) (w : World) (K : PySem.W.Frag) (mg : Str → Option Value) (base : Heap) (k : Nat) (C : Addr) (m : Str) (F : FF) : Prop where
  ex : ∃ (f : Addr) (fd : FuncData) (ps : List Str), FnG P w K mg base k f fd ps F ∧ Meth K C m f ∧ Binds K fd ps []
  cl : Cls K C
theorem MDef.mono {P : Program} {w : World} {K : PySem.W.Frag} {mg : Str → Option Value} {base : Heap} {j k : Nat} {C : Addr} {m : Str} {F : FF} (h : MDef P w K mg base j C m F) (hj : j ≤ k) : MDef P w K mg base k C m F := by
  obtain ⟨⟨f, fd, ps, h1, h2, h3⟩, h4⟩ := h
  exact ⟨⟨f, fd, ps, h1.mono hj, h2, h3⟩, h4⟩
theorem de_meth {F : FF} {k : Nat} {pl : Sem Bool} (D0 : MDef X.prog X.w X.K X.mg X.base k C m F) (hu : Up X k) (ho : DE X o fo) (ha : DA X (e :: es) g) (hst : starEach (e :: es) X.env = (false, eval e X.env) :: starEach es X.env := by first | exact st_cons rfl | rfl)
    (hpl : (backTo pos (starEach es X.env)).any (·.1) = false := by first | exact st_plain rfl | rfl)
    (ht : eval (.Call (.Attribute o m apos) (e :: es) [] pos) X.env = (do
      let ov ← eval o X.env
      standAt apos.atName
      let y ← holding [ov] (getMethod ov m pl)
      callWith pos y.1 y.2 (backTo pos (starEach (e :: es) X.env)) (backToKw pos (keywordEach [] X.env))) := by rfl) : DE X (.Call (.Attribute o m apos) (e :: es) [] pos) (fMeth C m F fo g) := by
  refine ⟨?_⟩
  intro σ β H env S d S' Q re rs hf q pins s I
  obtain ⟨⟨f, fd, ps, F1, hm, hb⟩, hc⟩ := D0
  obtain ⟨x, S1, e1, hf⟩ := bnd_inv hf
  obtain ⟨⟨n', ns, ds⟩, e2, hf⟩ := Option.bind_eq_some_iff.mp hf
  split at hf
  · cases hf
  · rename_i hmn
    obtain ⟨xs, S2, e3, hf⟩ := bnd_inv hf
    refine PySem.W.methodCall_KW (pl := pl) (thn (goE.run pins s σ H _ I (ho.run σ β H env S x S1 (fun v H1 => ∃ β1, Step β H β1 H1 ∧ RS X.K β1 H1 S1 ∧ RD X.K β1 H1 x v) re rs e1 fun v β1 H1 st1 rs1 r1 => ⟨β1, st1, rs1, r1⟩)) fun u s1 ⟨v, H1, I1, ru, β1, st1, rs1, r1⟩ => ?_) ht
    obtain ⟨a, dx, fs, rfl, h1, h2, h3, rfl, h5⟩ := insAt_ok rs1 r1 e2
    cases ru
    refine getmeth_ok I1 h3 hc hm (look_no hmn) ?_
    refine PySem.W.callWith_K (first := [.ref a]) (h₀ := X.base) I.ok.mod.kin hm.kp (thn (goA.run pos pins s1 σ H1 _ I1 (ha.run σ β1 H1 env S1 xs S2 (fun vs H2 => spF X.K F (.ref a :: vs) H2 Q) (re.step st1) rs1 e3 fun vs β2 H2 st2 rs2 r2 => ⟨β2, S2, x :: xs, d, S', rs2, .cons (RD.step st2 _ _ r1) r2, hf, q.step (st1.trans st2)⟩)) fun us s2 ⟨vs, H2, I2, r, q2⟩ => ⟨I2.kIn, ?_⟩) hst hpl
    exact run_g (us := .ref a :: us) F1 hu hb I2 (.cons (show RelV (V.ref a) (Value.ref a) from rfl) r) q2
theorem de_meth0 {F : FF} {k : Nat} {pl : Sem Bool} (D0 : MDef X.prog X.w X.K X.mg X.base k C m F) (hu : Up X k) (ho : DE X o fo)
    (ht : eval (.Call (.Attribute o m apos) [] [] pos) X.env = (do
      let ov ← eval o X.env
      standAt apos.atName
      let y ← holding [ov] (getMethod ov m pl)
      callWith pos y.1 y.2 (backTo pos (starEach [] X.env)) (backToKw pos (keywordEach [] X.env))) := by rfl) : DE X (.Call (.Attribute o m apos) [] [] pos) (fMeth C m F fo fNil) := by
  refine ⟨?_⟩
  intro σ β H env S d S' Q re rs hf q pins s I
  obtain ⟨⟨f, fd, ps, F1, hm, hb⟩, hc⟩ := D0
  obtain ⟨x, S1, e1, hf⟩ := bnd_inv hf
  obtain ⟨⟨n', ns, ds⟩, e2, hf⟩ := Option.bind_eq_some_iff.mp hf
  split at hf
  · cases hf
  · rename_i hmn
    have hf : F [x] S1 = some (d, S') := hf
    refine PySem.W.methodCall_KW (pl := pl) (thn (goE.run pins s σ H _ I (ho.run σ β H env S x S1 (fun v H1 => ∃ β1, Step β H β1 H1 ∧ RS X.K β1 H1 S1 ∧ RD X.K β1 H1 x v) re rs e1 fun v β1 H1 st1 rs1 r1 => ⟨β1, st1, rs1, r1⟩)) fun u s1 ⟨v, H1, I1, ru, β1, st1, rs1, r1⟩ => ?_) ht
    obtain ⟨a, dx, fs, rfl, h1, h2, h3, rfl, h5⟩ := insAt_ok rs1 r1 e2
    cases ru
    refine getmeth_ok I1 h3 hc hm (look_no hmn) ?_
    exact PySem.W.callWith_K0 (first := [.ref a]) I1.kIn hm.kp (run_g (us := [.ref a]) F1 hu hb I1 (.cons (show RelV (V.ref a) (Value.ref a) from rfl) .nil) ⟨β1, S1, [x], d, S', rs1, .one r1, hf, q.step st1⟩)
end
/-- a class that may be made -/
structure CDef (P : Program) (w : World) (K : PySem.W.Frag) (mg : Str → Option Value) (base : Heap) (k : Nat) (x : Str) (C : Addr) (F : FF) : Prop where
  ex : ∃ (f : Addr) (fd : FuncData) (ps : List Str), FnG P w K mg base k f fd ps F ∧ Mk K C f ∧ Binds K fd ps []
  at_ : mg x = some (.ref C)
theorem CDef.mono {P : Program} {w : World} {K : PySem.W.Frag} {mg : Str → Option Value} {base : Heap} {j k : Nat} {x : Str} {C : Addr} {F : FF} (h : CDef P w K mg base j x C F) (hj : j ≤ k) : CDef P w K mg base k x C F := by
  obtain ⟨⟨f, fd, ps, h1, h2, h3⟩, h4⟩ := h
  exact ⟨⟨f, fd, ps, h1.mono hj, h2, h3⟩, h4⟩
section
variable {X : Cx} {C : Addr} {x : Str} {p pos : Pos} {e : Expr} {es : List Expr} {g : FA} {F : FF} {k : Nat}
theorem step_made {K : PySem.W.Frag} {β : Bt} {H : Hp} {S : Store} {a dx : Addr} (rs : RS K β H S) (h1 : H a = none) (h2 : H dx = none) (h3 : dx ≠ a) :
    Step β H (bset β S.length a) (upd (upd H dx (.own a)) a (.ins C dx [])) ∧ RS K (bset β S.length a) (upd (upd H dx (.own a)) a (.ins C dx [])) (S ++ [.ins C [] []]) := by
  have rs1 := rs.laid (o := .own a) h2
  have h1' : (upd H dx (.own a)) a = none := by rw [upd_ne (Ne.symm h3)]; exact h1
  exact ⟨(Step.laid h2).trans (.place rs1 h1'), rs1.place h1' (.ins (fs := []) rfl .nil)⟩
theorem run_makeG {f : Addr} {fd : FuncData} {ps : List Str} (M : Mk X.K C f) (G : FnG X.prog X.w X.K X.mg X.base k f fd ps F) (hu : Up X (k + 1)) (hb : Binds X.K fd ps []) {pins : List (Addr × Obj)} {σ : L2.St} {β : Bt} {H : Hp} {s : Shared} {S1 S2 : Store} {xs : List D} {Q : VK} {us : List Value} {vs : List V}
    (I : Inv X pins σ H s) (r : Vals vs us) (rs : RS X.K β H S1) (rd : RDs X.K β H xs vs) (e : F (.loc S1.length :: xs) (S1 ++ [.ins C [] []]) = some (.non, S2)) (q : PostE X.K β H S2 (.loc S1.length) Q) : wpAny (model X.prog X.w) X.A (call (.ref C) us) (EP X pins σ Q) X.xe s := by
  have z1 : H (s.heap.objs.size + 1) = none := I.hok.fresh (Nat.le_succ _)
  have z2 : H s.heap.objs.size = none := I.hok.fresh (Nat.le_refl _)
  have z3 : s.heap.objs.size ≠ s.heap.objs.size + 1 := Nat.ne_of_lt (Nat.lt_succ_self _)
  have I2 := Inv.made (C := C) I
  obtain ⟨st, rs2⟩ := step_made (C := C) rs z1 z2 z3
  have at0 : bset β S1.length (s.heap.objs.size + 1) S1.length = some (s.heap.objs.size + 1) := by unfold bset; rw [if_pos rfl]
  have r2 : Vals (V.ref (s.heap.objs.size + 1) :: vs) (Value.ref (s.heap.objs.size + 1) :: us) := .cons rfl r
  have sp : spF X.K F (V.ref (s.heap.objs.size + 1) :: vs) (upd (upd H s.heap.objs.size (.own (s.heap.objs.size + 1))) (s.heap.objs.size + 1) (.ins C s.heap.objs.size [])) fun v H2 => v = .non ∧ Q (.ref (s.heap.objs.size + 1)) H2 :=
    ⟨_, _, _, _, _, rs2, .cons (.loc at0) (RDs.step st _ _ rd), e, fun v β2 H2 st2 rs3 r3 => by
      cases r3
      exact ⟨rfl, q _ β2 H2 (st.trans st2) rs3 (.loc (st2.ext _ _ at0))⟩⟩
  have hl : (Value.ref (s.heap.objs.size + 1) :: us).length = ps.length := by
    rw [← r2.length]
    show vs.length + 1 = ps.length
    rw [← rd.length]
    exact G.len _ _ _ e
  have hb2 := hb _ (Value.ref (s.heap.objs.size + 1) :: us) I2.kIn (by rw [List.append_nil]; exact hl)
  rw [List.append_nil] at hb2
  refine wpAny_call (make_map (f := f) I.kIn M.makes M.init (beq_iff_eq.mp M.fn) (codeAny_mono (G.run _ X.stack _ _ ⟨Value.ref (s.heap.objs.size + 1) :: us, []⟩ (Value.ref (s.heap.objs.size + 1) :: us) _ _ (hu.room.make C us []) hu.quiet (I2.env0.make C us []) hb2 r2 sp) fun rr s' hq => ?_))
  cases rr with
  | error e => exact False.elim hq
  | ok fl =>
    cases fl with
    | ret u =>
      obtain ⟨v, H3, I3, rv, ev, q3⟩ := I2.after hq
      subst ev
      exact ⟨rv, ⟨V.ref (s.heap.objs.size + 1), H3, I3, rfl, q3⟩⟩
    | next => exact False.elim hq
    | brk => exact False.elim hq
    | cont => exact False.elim hq
theorem de_make (D0 : CDef X.prog X.w X.K X.mg X.base k x C F) (hu : Up X (k + 1)) (ha : DA X (e :: es) g) (hg : Gl X x := by rfl) (hdb : (x == ("__debug__" : Str)) = false := by decide)
    (he : starEach (e :: es) X.env = (false, eval e X.env) :: starEach es X.env := by first | exact st_cons rfl | rfl) (hpl : (backTo pos (starEach es X.env)).any (·.1) = false := by first | exact st_plain rfl | rfl) : DE X (.Call (.Name x p) (e :: es) [] pos) (fMake C F g) := by
  refine ⟨?_⟩
  intro σ β H env S d S' Q re rs hf q pins s I
  obtain ⟨⟨f, fd, ps, G, M, hb⟩, hm⟩ := D0
  obtain ⟨xs, S1, e1, hf⟩ := bnd_inv hf
  split at hf
  · rename_i S2 e2
    cases hf
    refine wpAny_Call_Name_kw (ld_glob I hg hm ?_ hdb)
    refine PySem.W.callWith_K (h₀ := X.base) I.ok.mod.kin M.kp (thn (goA.run pos pins s σ H _ I (ha.run σ β H env S xs S1 (fun vs H1 => ∃ β1, Step β H β1 H1 ∧ RS X.K β1 H1 S1 ∧ RDs X.K β1 H1 xs vs) re rs e1 fun vs β1 H1 st1 rs1 r1 => ⟨β1, st1, rs1, r1⟩)) fun us s1 ⟨vs, H1, I1, r, β1, st1, rs1, r1⟩ => ⟨I1.kIn, ?_⟩) he hpl
    exact run_makeG M G hu hb I1 r rs1 r1 e2 (q.step st1)
  · cases hf
theorem de_make0 (D0 : CDef X.prog X.w X.K X.mg X.base k x C F) (hu : Up X (k + 1)) (hg : Gl X x := by rfl) (hdb : (x == ("__debug__" : Str)) = false := by decide) : DE X (.Call (.Name x p) [] [] pos) (fMake C F fNil) := by
  refine ⟨?_⟩
  intro σ β H env S d S' Q re rs hf q pins s I
  obtain ⟨⟨f, fd, ps, G, M, hb⟩, hm⟩ := D0
  obtain ⟨xs, S1, e1, hf⟩ := bnd_inv hf
  cases e1
  split at hf
  · rename_i S2 e2
    cases hf
    refine wpAny_Call_Name_kw (ld_glob I hg hm ?_ hdb)
    exact PySem.W.callWith_K0 I.kIn M.kp (run_makeG M G hu hb I .nil rs .nil e2 q)
  · cases hf
end
/-! ### closers: all is kept -/
def closeK (n : Nat) (d : D) (S : Store) : Option (D × Store) := some (d, S)
theorem closer_K : Closer closeK := fun K β0 H0 β H d v n S d' S' st hd rs r e => by
  cases e
  exact ⟨β, st, rs, r⟩
end Mir

set_option Elab.async false
set_option linter.all false
set_option maxRecDepth 100000
set_option autoImplicit false
set_option maxHeartbeats 1000000
/-! Mir16: more built-ins, methods of texts and lists, is None, three names at once. -/
namespace Mir
open PySem PySem.P PySem.Spec PyProof.Rows L2

/-! ### built-ins -/
def bIntX : FF := fun xs S => match xs with
  | [.str y] => if y.length ≤ 640 then (PySem.intText? y).map fun n => (.int n, S) else none
  | xs => bInt xs S
def bStr : FF := fun xs S => match xs with
  | [.int i] => if i.natAbs.log2 < 1920 then some (.str (toString i), S) else none
  | [.str y] => some (.str y, S)
  | _ => none
def bBool : FF := fun xs S => match xs with
  | [.int i] => some (.bl (i != 0), S)
  | [.bl b] => some (.bl b, S)
  | _ => none
def maxL : List Int → Int
  | [] => 0
  | [x] => x
  | x :: xs => if x < maxL xs then maxL xs else x
def minL : List Int → Int
  | [] => 0
  | [x] => x
  | x :: xs => if minL xs < x then minL xs else x
theorem maxL_ok : ∀ ns : List Int, ns ≠ [] → maxL ns ∈ ns ∧ ∀ y ∈ ns, y ≤ maxL ns
  | [], h => absurd rfl h
  | [x], _ => ⟨List.mem_cons_self, fun y hy => by simp at hy; subst hy; exact Int.le_refl _⟩
  | x :: y :: r, _ => by
    obtain ⟨h1, h2⟩ := maxL_ok (y :: r) (by simp)
    show (if x < maxL (y :: r) then maxL (y :: r) else x) ∈ _ ∧ ∀ z ∈ _, z ≤ (if x < maxL (y :: r) then maxL (y :: r) else x)
    split
    · rename_i h
      refine ⟨List.mem_cons_of_mem _ h1, fun z hz => ?_⟩
      rcases List.mem_cons.mp hz with rfl | hz
      · omega
      · exact h2 z hz
    · rename_i h
      refine ⟨List.mem_cons_self, fun z hz => ?_⟩
      rcases List.mem_cons.mp hz with rfl | hz
      · exact Int.le_refl _
      · have := h2 z hz
        omega
theorem minL_ok : ∀ ns : List Int, ns ≠ [] → minL ns ∈ ns ∧ ∀ y ∈ ns, minL ns ≤ y
  | [], h => absurd rfl h
  | [x], _ => ⟨List.mem_cons_self, fun y hy => by simp at hy; subst hy; exact Int.le_refl _⟩
  | x :: y :: r, _ => by
    obtain ⟨h1, h2⟩ := minL_ok (y :: r) (by simp)
    show (if minL (y :: r) < x then minL (y :: r) else x) ∈ _ ∧ ∀ z ∈ _, (if minL (y :: r) < x then minL (y :: r) else x) ≤ z
    split
    · rename_i h
      refine ⟨List.mem_cons_of_mem _ h1, fun z hz => ?_⟩
      rcases List.mem_cons.mp hz with rfl | hz
      · omega
      · exact h2 z hz
    · rename_i h
      refine ⟨List.mem_cons_self, fun z hz => ?_⟩
      rcases List.mem_cons.mp hz with rfl | hz
      · exact Int.le_refl _
      · have := h2 z hz
        omega
/-- max, min: of a list of ints, of two ints -/
def bMaxX : FF := fun xs S => match xs with
  | [x] => ((lsOf S x).bind asInts).bind fun ns => if ns = [] then none else some (.int (maxL ns), S)
  | xs => bMax2 xs S
def bMinX : FF := fun xs S => match xs with
  | [x] => ((lsOf S x).bind asInts).bind fun ns => if ns = [] then none else some (.int (minL ns), S)
  | xs => bMin2 xs S
def bSum : FF := fun xs S => match xs with
  | [x] => ((lsOf S x).bind asInts).map fun ns => (.int ns.sum, S)
  | _ => none
section
variable {K : PySem.W.Frag}
theorem rn_intX : RdN K (fun xs H Q => (∃ a n, xs = [.str a] ∧ PySem.intText? a = some n ∧ a.length ≤ 640 ∧ Q (.int n) H) ∨ ((∃ i, xs = [.int i] ∧ Q (.int i) H) ∨ ∃ k, xs = [.bl k] ∧ Q (.int (if k then 1 else 0)) H)) bIntX := by
  intro β H S xs vs d S' Q rs r hf q
  unfold bIntX at hf
  split at hf
  · split at hf
    · rename_i hl
      obtain ⟨n, e1, e2⟩ := Option.map_eq_some_iff.mp hf
      cases e2
      cases r with | cons r1 r2 => cases r1; cases r2; exact .inl ⟨_, n, rfl, e1, hl, q.now rs (.int _)⟩
    · cases hf
  · exact .inr (rn_int β H S xs vs d S' Q rs r hf q)
theorem rn_str : RdN K (fun xs H Q => (∃ i, xs = [.int i] ∧ i.natAbs.log2 < 1920 ∧ Q (.str (toString i)) H) ∨ ∃ a, xs = [.str a] ∧ Q (.str a) H) bStr := by
  intro β H S xs vs d S' Q rs r hf q
  unfold bStr at hf
  split at hf
  · split at hf
    · rename_i hl
      cases hf
      cases r with | cons r1 r2 => cases r1; cases r2; exact .inl ⟨_, rfl, hl, q.now rs (.str _)⟩
    · cases hf
  · cases hf
    cases r with | cons r1 r2 => cases r1; cases r2; exact .inr ⟨_, rfl, q.now rs (.str _)⟩
  · cases hf
theorem rn_bool : RdN K (fun xs H Q => (∃ i, xs = [.int i] ∧ Q (.bl (i != 0)) H) ∨ ∃ k, xs = [.bl k] ∧ Q (.bl k) H) bBool := by
  intro β H S xs vs d S' Q rs r hf q
  unfold bBool at hf
  split at hf
  · cases hf
    cases r with | cons r1 r2 => cases r1; cases r2; exact .inl ⟨_, rfl, q.now rs (.bl _)⟩
  · cases hf
    cases r with | cons r1 r2 => cases r1; cases r2; exact .inr ⟨_, rfl, q.now rs (.bl _)⟩
  · cases hf
theorem rn_maxX : RdN K (fun xs H Q => rMax K xs H Q ∨ ∃ i j, xs = [.int i, .int j] ∧ Q (.int (if j > i then j else i)) H) bMaxX := by
  intro β H S xs vs d S' Q rs r hf q
  unfold bMaxX at hf
  split at hf
  · cases r with
    | cons r1 r2 =>
      cases r2
      obtain ⟨ns, e1, hf⟩ := Option.bind_eq_some_iff.mp hf
      split at hf
      · cases hf
      · rename_i hne
        cases hf
        obtain ⟨ds, e3, e4⟩ := Option.bind_eq_some_iff.mp e1
        obtain ⟨a, vs, rfl, h1, h2⟩ := rs.lsq r1 e3
        have := h2.ints e4
        subst this
        refine .inl ⟨a, ns, rfl, h1, List.length_pos_iff.mpr hne, fun m hm hy => ?_⟩
        obtain ⟨g1, g2⟩ := maxL_ok ns hne
        have e : m = maxL ns := Int.le_antisymm (g2 m hm) (hy _ g1)
        rw [e]
        exact q.now rs (.int _)
  · exact .inr (rn_max2 β H S xs vs d S' Q rs r hf q)
theorem rn_minX : RdN K (fun xs H Q => rMin K xs H Q ∨ ∃ i j, xs = [.int i, .int j] ∧ Q (.int (if j < i then j else i)) H) bMinX := by
  intro β H S xs vs d S' Q rs r hf q
  unfold bMinX at hf
  split at hf
  · cases r with
    | cons r1 r2 =>
      cases r2
      obtain ⟨ns, e1, hf⟩ := Option.bind_eq_some_iff.mp hf
      split at hf
      · cases hf
      · rename_i hne
        cases hf
        obtain ⟨ds, e3, e4⟩ := Option.bind_eq_some_iff.mp e1
        obtain ⟨a, vs, rfl, h1, h2⟩ := rs.lsq r1 e3
        have := h2.ints e4
        subst this
        refine .inl ⟨a, ns, rfl, h1, List.length_pos_iff.mpr hne, fun m hm hy => ?_⟩
        obtain ⟨g1, g2⟩ := minL_ok ns hne
        have e : m = minL ns := Int.le_antisymm (hy _ g1) (g2 m hm)
        rw [e]
        exact q.now rs (.int _)
  · exact .inr (rn_min2 β H S xs vs d S' Q rs r hf q)
theorem rn_sum : RdN K (rSum K) bSum := by
  intro β H S xs vs d S' Q rs r hf q
  unfold bSum at hf
  split at hf
  · cases r with
    | cons r1 r2 =>
      cases r2
      obtain ⟨ns, e1, e2⟩ := Option.map_eq_some_iff.mp hf
      cases e2
      obtain ⟨ds, e3, e4⟩ := Option.bind_eq_some_iff.mp e1
      obtain ⟨a, vs, rfl, h1, h2⟩ := rs.lsq r1 e3
      have := h2.ints e4
      subst this
      exact ⟨a, ns, rfl, h1, q.now rs (.int _)⟩
  · cases hf
end
section
variable {X : Cx} {p pos : Pos} {e : Expr} {es : List Expr} {g : FA}
theorem de_intX (hm : X.mg "int" = none) (ha : DA X (e :: es) g) (hg : Gl X "int" := by rfl) (he : starEach (e :: es) X.env = (false, eval e X.env) :: starEach es X.env := by first | exact st_cons rfl | rfl) (hpl : (backTo pos (starEach es X.env)).any (·.1) = false := by first | exact st_plain rfl | rfl) : DE X (.Call (.Name "int" p) (e :: es) [] pos) (fCall bIntX g) := de_callTy (call_int_str.or call_int1) rn_intX hm boot_int ha hg (by decide) (by decide) he hpl
theorem de_strC (hm : X.mg "str" = none) (ha : DA X (e :: es) g) (hg : Gl X "str" := by rfl) (he : starEach (e :: es) X.env = (false, eval e X.env) :: starEach es X.env := by first | exact st_cons rfl | rfl) (hpl : (backTo pos (starEach es X.env)).any (·.1) = false := by first | exact st_plain rfl | rfl) : DE X (.Call (.Name "str" p) (e :: es) [] pos) (fCall bStr g) := de_callTy (call_str_int.or SkE.call_str_str) rn_str hm boot_str ha hg (by decide) (by decide) he hpl
theorem de_boolC (hm : X.mg "bool" = none) (ha : DA X (e :: es) g) (hg : Gl X "bool" := by rfl) (he : starEach (e :: es) X.env = (false, eval e X.env) :: starEach es X.env := by first | exact st_cons rfl | rfl) (hpl : (backTo pos (starEach es X.env)).any (·.1) = false := by first | exact st_plain rfl | rfl) : DE X (.Call (.Name "bool" p) (e :: es) [] pos) (fCall bBool g) := de_callTy call_bool1 rn_bool hm boot_bool ha hg (by decide) (by decide) he hpl
theorem de_max (hm : X.mg "max" = none) (ha : DA X (e :: es) g) (hg : Gl X "max" := by rfl) (hc : X.calm = true := by rfl) (he : starEach (e :: es) X.env = (false, eval e X.env) :: starEach es X.env := by first | exact st_cons rfl | rfl) (hpl : (backTo pos (starEach es X.env)).any (·.1) = false := by first | exact st_plain rfl | rfl) : DE X (.Call (.Name "max" p) (e :: es) [] pos) (fCall bMaxX g) := de_callB ((cr_max hc).or (call_max2 hc)) rn_maxX hm boot_max ha hg (by decide) (by decide) he hpl
theorem de_min (hm : X.mg "min" = none) (ha : DA X (e :: es) g) (hg : Gl X "min" := by rfl) (hc : X.calm = true := by rfl) (he : starEach (e :: es) X.env = (false, eval e X.env) :: starEach es X.env := by first | exact st_cons rfl | rfl) (hpl : (backTo pos (starEach es X.env)).any (·.1) = false := by first | exact st_plain rfl | rfl) : DE X (.Call (.Name "min" p) (e :: es) [] pos) (fCall bMinX g) := de_callB ((cr_min hc).or (call_min2 hc)) rn_minX hm boot_min ha hg (by decide) (by decide) he hpl
theorem de_sum (hm : X.mg "sum" = none) (ha : DA X (e :: es) g) (hg : Gl X "sum" := by rfl) (hc : X.calm = true := by rfl) (he : starEach (e :: es) X.env = (false, eval e X.env) :: starEach es X.env := by first | exact st_cons rfl | rfl) (hpl : (backTo pos (starEach es X.env)).any (·.1) = false := by first | exact st_plain rfl | rfl) : DE X (.Call (.Name "sum" p) (e :: es) [] pos) (fCall bSum g) := de_callB (cr_sum hc) rn_sum hm boot_sum ha hg (by decide) (by decide) he hpl
end

/-! ### methods of texts and lists -/
/-- the receiver's type, as it is asked ahead of the arguments -/
def tyOk (T : String) (S : Store) (x : D) : Bool := match x with
  | .str _ => T == "str"
  | x => T == "list" && (lsOf S x).isSome
def fMt (T : String) (o : D → FF) (fo : FE) (g : FA) : FE := fun env S => bnd (fo env S) fun x S1 => if tyOk T S1 x then bnd (g env S1) fun xs S2 => o x xs S2 else none
def RdM (K : PySem.W.Frag) (r : V → List V → Hp → VK → Prop) (o : D → FF) : Prop := ∀ (β : Bt) (H : Hp) (S : Store) (x : D) (v : V) (xs : List D) (vs : List V) (d : D) (S' : Store) (Q : VK), RS K β H S → RD K β H x v → RDs K β H xs vs → o x xs S = some (d, S') → PostE K β H S' d Q → r v vs H Q
theorem tyOk_ok {K : PySem.W.Frag} {β : Bt} {H : Hp} {S : Store} {T : String} {x : D} {v : V} (rs : RS K β H S) (r : RD K β H x v) (h : tyOk T S x = true) : tyV K T v H := by
  unfold tyOk at h
  split at h
  · cases r
    exact eq_of_beq h
  · rw [Bool.and_eq_true] at h
    obtain ⟨ds, e⟩ := Option.isSome_iff_exists.mp h.2
    obtain ⟨a, vs, rfl, h1, h2⟩ := rs.lsq r e
    exact .inl ⟨eq_of_beq h.1, vs, h1⟩
section
variable {X : Cx} {o e : Expr} {es : List Expr} {fo : FE} {g : FA} {name : Str} {apos cpos : Pos} {T id : String} {r : V → List V → Hp → VK → Prop} {op : D → FF}
theorem de_mt (pa : PlainAttrs T) (slot : Slot T name id) (hty : typeOf (.builtin id) = pure (.type "method_descriptor")) (hm : MtR X id r) (hr : RdM X.K r op) (ho : DE X o fo) (ha : DA X (e :: es) g) (hbase : attributeBase o name X.env (eval o X.env) = eval o X.env := by rfl)
    (hfew : ((backTo cpos (starEach (e :: es) X.env)).all (fun x => !x.1) && (backToKw cpos (keywordEach [] X.env)).all (fun x => x.1.isSome) && decide ((e :: es).length + ([] : List Keyword).length + (if ([] : List Keyword).isEmpty then 0 else 1) < 30)) = true := by rfl)
    (hline : (apos.endLine == cpos.line) = true := by rfl) (hs : starEach (e :: es) X.env = (false, eval e X.env) :: starEach es X.env := by first | exact st_cons rfl | rfl) (hplain : (backTo cpos (starEach es X.env)).any (·.1) = false := by first | exact st_plain rfl | rfl) :
    DE X (.Call (.Attribute o name apos) (e :: es) [] cpos) (fMt T op fo g) := de_of (pe_bm pa slot hty hm goE goA hbase hfew hline hs hplain) (by
  intro σ β H env S d S' Q re rs hf q
  obtain ⟨x, S1, e1, hf⟩ := bnd_inv hf
  split at hf
  · rename_i ht
    obtain ⟨xs, S2, e2, hf⟩ := bnd_inv hf
    refine ho.run σ β H env S x S1 _ re rs e1 fun v β1 H1 st1 rs1 r1 => ⟨tyOk_ok rs1 r1 ht, ?_⟩
    refine ha.run σ β1 H1 env S1 xs S2 _ (re.step st1) rs1 e2 fun vs β2 H2 st2 rs2 r2 => ?_
    exact hr β2 H2 S2 x v xs vs d S' Q rs2 (RD.step st2 _ _ r1) r2 hf (q.step (st1.trans st2))
  · cases hf)
end
def mStarts : D → FF := fun x xs S => match x, xs with
  | .str a, [.str b] => some (.bl (Txt.startswith a b), S)
  | _, _ => none
def mCount : D → FF := fun x xs S => match x, xs with
  | .str a, [.str b] => some (.int (Txt.count a b), S)
  | _, _ => none
def mSplit : D → FF := fun x xs S => match x, xs with
  | .str a, [.str b] => if (b.length == 0) = false ∧ a.length + 2 ≤ sizeLine then some (.lst ((Txt.split a b).map .str), S) else none
  | _, _ => none
def mPart : D → FF := fun x xs S => match x, xs with
  | .str a, [.str b] => if (b.length == 0) = false ∧ a.length ≤ sizeLine then some (.tup [.str (Txt.partition a b).1, .str (Txt.partition a b).2.1, .str (Txt.partition a b).2.2], S) else none
  | _, _ => none
/-- the first place of an int among ints -/
def mIndex : D → FF := fun x xs S => match xs with
  | [.int i] => ((lsOf S x).bind asInts).bind fun ns => if i ∈ ns then some (.int (ns.idxOf i : Nat), S) else none
  | _ => none
section
variable {K : PySem.W.Frag}
theorem rm_starts : RdM K (fun x xs H Q => ∃ a b, x = .str a ∧ xs = [.str b] ∧ Q (.bl (Txt.startswith a b)) H) mStarts := by
  intro β H S x v xs vs d S' Q rs r1 r2 hf q
  unfold mStarts at hf
  split at hf
  · cases hf; cases r1
    cases r2 with | cons r2 r3 => cases r2; cases r3; exact ⟨_, _, rfl, rfl, q.now rs (.bl _)⟩
  · cases hf
theorem rm_count : RdM K (fun x xs H Q => ∃ a b, x = .str a ∧ xs = [.str b] ∧ Q (.int (Txt.count a b)) H) mCount := by
  intro β H S x v xs vs d S' Q rs r1 r2 hf q
  unfold mCount at hf
  split at hf
  · cases hf; cases r1
    cases r2 with | cons r2 r3 => cases r2; cases r3; exact ⟨_, _, rfl, rfl, q.now rs (.int _)⟩
  · cases hf
theorem rm_split : RdM K (fun x xs H Q => ∃ a b, x = .str a ∧ xs = [.str b] ∧ (b.length == 0) = false ∧ a.length + 2 ≤ sizeLine ∧ rNewStrs (Txt.split a b) H Q) mSplit := by
  intro β H S x v xs vs d S' Q rs r1 r2 hf q
  unfold mSplit at hf
  split at hf
  · split at hf
    · rename_i h
      cases hf; cases r1
      cases r2 with | cons r2 r3 => cases r2; cases r3; exact ⟨_, _, rfl, rfl, h.1, h.2, fun p hp => q.newL rs (RDs.ofStrs _) p hp⟩
    · cases hf
  · cases hf
theorem rm_part : RdM K (fun x xs H Q => ∃ a b, x = .str a ∧ xs = [.str b] ∧ (b.length == 0) = false ∧ a.length ≤ sizeLine ∧
    ∀ p, H p = none → Q (.ref p) (upd H p (.tup [.str (Txt.partition a b).1, .str (Txt.partition a b).2.1, .str (Txt.partition a b).2.2]))) mPart := by
  intro β H S x v xs vs d S' Q rs r1 r2 hf q
  unfold mPart at hf
  split at hf
  · split at hf
    · rename_i h
      cases hf; cases r1
      cases r2 with | cons r2 r3 => cases r2; cases r3; exact ⟨_, _, rfl, rfl, h.1, h.2, fun p hp => q.newT rs (.cons (.str _) (.cons (.str _) (.cons (.str _) .nil))) p hp⟩
    · cases hf
  · cases hf
theorem rm_index : RdM K (rIndex K) mIndex := by
  intro β H S x v xs vs d S' Q rs r1 r2 hf q
  unfold mIndex at hf
  split at hf
  · rename_i i
    obtain ⟨ns, e1, hf⟩ := Option.bind_eq_some_iff.mp hf
    split at hf
    · rename_i hi
      cases hf
      obtain ⟨ds, e3, e4⟩ := Option.bind_eq_some_iff.mp e1
      obtain ⟨a, vs, rfl, h1, h2⟩ := rs.lsq r1 e3
      have := h2.ints e4
      subst this
      cases r2 with
      | cons r2 r3 =>
        cases r2; cases r3
        have lt : ns.idxOf i < ns.length := List.idxOf_lt_length_of_mem hi
        refine ⟨a, ns.map V.int, .int i, ns.idxOf i, .int i, rfl, rfl, h1, rfl, ?_, ?_, ?_, ?_, q.now rs (.int _)⟩
        · rw [List.all_map]
          exact List.all_eq_true.mpr fun _ _ => rfl
        · rw [List.getElem?_map, List.getElem?_eq_getElem lt, List.getElem_idxOf lt]
          rfl
        · exact beq_self_eq_true i
        · intro m z hm hz
          rw [List.getElem?_map] at hz
          obtain ⟨k, hk, rfl⟩ := Option.map_eq_some_iff.mp hz
          show (k == i) = false
          refine beq_eq_false_iff_ne.mpr fun e => ?_
          obtain ⟨hl, hk2⟩ := List.getElem?_eq_some_iff.mp hk
          rw [e] at hk2
          have h9 := List.not_of_lt_findIdx (p := (· == i)) (xs := ns) (show m < ns.findIdx (· == i) from hm)
          simp [hk2] at h9
    · cases hf
  · cases hf
end

/-! ### is None -/
def isNon : D → Option Bool
  | .non => some true
  | .raw _ => none
  | _ => some false
def oIsN (neg : Bool) : F2 := fun x y S => match y with
  | .non => (isNon x).map fun b => (.bl (if neg then !b else b), S)
  | _ => none
theorem isNon_ok {K : PySem.W.Frag} {β : Bt} {H : Hp} {x : D} {v : V} {b : Bool} (r : RD K β H x v) (e : isNon x = some b) : decide (v = .non) = b := by
  cases r <;> first
    | (cases e; done)
    | (cases e; rfl)
    | (cases e; simp)
theorem rd_isN {K : PySem.W.Frag} : Rd2 K (fun x y H Q => y = .non ∧ Q (.bl (decide (x = .non))) H) (oIsN false) := by
  intro β H S x y v u d S' Q rs r1 r2 hf q
  unfold oIsN at hf
  split at hf
  · obtain ⟨b, e1, e2⟩ := Option.map_eq_some_iff.mp hf
    cases e2
    cases r2
    refine ⟨rfl, ?_⟩
    rw [isNon_ok r1 e1]
    exact q.now rs (.bl _)
  · cases hf
theorem rd_notN {K : PySem.W.Frag} : Rd2 K (fun x y H Q => y = .non ∧ Q (.bl (!decide (x = .non))) H) (oIsN true) := by
  intro β H S x y v u d S' Q rs r1 r2 hf q
  unfold oIsN at hf
  split at hf
  · obtain ⟨b, e1, e2⟩ := Option.map_eq_some_iff.mp hf
    cases e2
    cases r2
    refine ⟨rfl, ?_⟩
    rw [isNon_ok r1 e1]
    exact q.now rs (.bl _)
  · cases hf

/-! ### three names at once -/
def sPar3 (i j l : Nat) (f : FA) : FS := fun env S => bnd (f env S) fun ds S1 => match ds with
  | [a, b, c] => some (.nx (((env.set i (some a)).set j (some b)).set l (some c)), S1)
  | _ => none
theorem ds_par3 {X : Cx} {pos : Pos} {i j l : Nat} {x y z : Str} {a b c : Expr} {fa : FA} {px py pz pt : Pos} {kt k2 : Nat} {pt2 : Pos} (hN : X.N.Nodup) (ha : DA X [a, b, c] fa)
    (hw : swappedStores [.Tuple [.Name x px, .Name y py, .Name z pz] kt pt] (.Tuple [a, b, c] k2 pt2) X.env = pure (some [x, y, z]) := by rfl) (hi : X.N[i]? = some x := by rfl) (hj : X.N[j]? = some y := by rfl) (hl : X.N[l]? = some z := by rfl) (hij : i ≠ j := by decide) (hil : i ≠ l := by decide) (hjl : j ≠ l := by decide)
    (hx : X.env.scope.names.lookup x = some .local := by rfl) (hy : X.env.scope.names.lookup y = some .local := by rfl) (hz : X.env.scope.names.lookup z = some .local := by rfl) (hc : X.calm = true := by rfl)
    (hs : swapsWithSole [.Tuple [.Name x px, .Name y py, .Name z pz] kt pt] (.Tuple [a, b, c] k2 pt2) pos.line X.env = pure false := by rfl) : DS X (.Assign [.Tuple [.Name x px, .Name y py, .Name z pz] kt pt] (.Tuple [a, b, c] k2 pt2) pos) (sPar3 i j l fa) := by
  refine ds_of (ps_par3 hc hN hi hj hl hij hil hjl hx hy hz goA hw hs) ?_
  intro σ β H env S d S' N re rs hf q
  obtain ⟨ds, S1, e1, hf⟩ := bnd_inv hf
  refine ha.run σ β H env S ds S1 _ re rs e1 fun vs β1 H1 st1 rs1 r1 => ?_
  split at hf
  · cases hf
    cases r1 with
    | cons r1 r2 =>
      cases r2 with
      | cons r2 r3 =>
        cases r3 with
        | cons r3 r4 =>
          cases r4
          exact ⟨_, _, _, rfl, q _ β1 H1 st1 rs1 ((((re.step st1).set r1).set r2).set r3)⟩
  · cases hf
end Mir

set_option Elab.async false
set_option linter.all false
set_option maxRecDepth 100000
set_option autoImplicit false
set_option maxHeartbeats 1000000
/-! Mir17: more rules of Wd: while, attributes, methods, augmented stores. -/
namespace Mir
open PySem L2
section
variable {env : Env} {S : Store} {QS : Rt → Store → Prop} {Q : D → Store → Prop} {f fv fo : FE} {C : Addr} {x m : Str} {ga : FA} {F : FF} {o : F2} {i : Nat}
/-- a while that turns m times -/
theorem w_while {c : FT} {body : FS} {n : Nat} (m : Nat) (J : Nat → Env → Store → Prop) (h0 : J 0 env S) (hn : m < n) (ht : ∀ i, i < m → ∀ e S1, J i e S1 → Wd (c e S1) fun b S2 => b = true ∧ Wd (body e S2) fun r S3 => ∃ e', r = .nx e' ∧ J (i + 1) e' S3)
    (hf : ∀ e S1, J m e S1 → Wd (c e S1) fun b S2 => b = false ∧ QS (.nx e) S2) : Wd (sWhile n c body env S) QS := by
  unfold sWhile
  have go : ∀ (k i n : Nat) (e : Env) (S1 : Store), i + k = m → k < n → J i e S1 → Wd (whGo c body n e S1) QS := by
    intro k
    induction k with
    | zero =>
      intro i n e S1 hi hn hJ
      cases n with
      | zero => omega
      | succ n =>
        have : i = m := by omega
        subst this
        obtain ⟨b, S2, e1, rfl, q⟩ := hf e S1 hJ
        exact ⟨_, S2, by unfold whGo; rw [e1, bnd_some]; rfl, q⟩
    | succ k ih =>
      intro i n e S1 hi hn hJ
      cases n with
      | zero => omega
      | succ n =>
        obtain ⟨b, S2, e1, rfl, r, S3, e2, e', rfl, hJ'⟩ := ht i (by omega) e S1 hJ
        obtain ⟨r4, S4, e4, q⟩ := ih (i + 1) n e' S3 (by omega) (by omega) hJ'
        exact ⟨r4, S4, by unfold whGo; rw [e1, bnd_some, if_pos rfl, e2, bnd_some]; exact e4, q⟩
  exact go m 0 n env S (by omega) hn h0
theorem w_aug {d : D} (e : env[i]? = some (some d)) : Wd (sAug i o f env S) QS ↔ Wd (f env S) fun y S1 => Wd (o d y S1) fun z S2 => QS (.nx (env.set i (some z))) S2 := by
  unfold sAug
  rw [e]
  simp only [wd_bnd, wd_some]
theorem w_fldM : Wd (sFldM C x fo fv env S) QS ↔ Wd (fv env S) fun y S1 => Wd (fo env S1) fun p S2 => ∃ S3, setIns C x y p S2 = some S3 ∧ QS (.nx env) S3 := by
  unfold sFldM
  simp only [wd_bnd]
  have e : ∀ (y p : D) (S2 : Store), Wd ((setIns C x y p S2).map fun S3 => (Rt.nx env, S3)) QS ↔ ∃ S3, setIns C x y p S2 = some S3 ∧ QS (.nx env) S3 := by
    intro y p S2
    constructor
    · rintro ⟨r, S4, e, q⟩
      obtain ⟨k, e3, e4⟩ := Option.map_eq_some_iff.mp e
      cases e4
      exact ⟨_, e3, q⟩
    · rintro ⟨S4, e, q⟩
      exact ⟨_, S4, by rw [e]; rfl, q⟩
  simp only [e]
theorem w_fldAug {n : Nat} {ns : List Str} {ds : List D} {p d : D} (h1 : ∀ S', insAt C S' p = insAt C S' p) (e0 : fo env S = some (p, S)) (e1 : insAt C S p = some (n, ns, ds)) (e2 : lookD x ns ds = some d) :
    Wd (sFldAugM C x o fo fv env S) QS ↔ Wd (fv env S) fun y S2 => Wd (o d y S2) fun z S3 => ∃ S4, setIns C x z p S3 = some S4 ∧ QS (.nx env) S4 := by
  unfold sFldAugM
  rw [e0, bnd_some, e1]
  simp only [Option.bind_some, e2, wd_bnd]
  have e : ∀ (z : D) (S3 : Store), Wd ((setIns C x z p S3).map fun S4 => (Rt.nx env, S4)) QS ↔ ∃ S4, setIns C x z p S3 = some S4 ∧ QS (.nx env) S4 := by
    intro z S3
    constructor
    · rintro ⟨r, S4, e, q⟩
      obtain ⟨k, e3, e4⟩ := Option.map_eq_some_iff.mp e
      cases e4
      exact ⟨_, e3, q⟩
    · rintro ⟨S4, e, q⟩
      exact ⟨_, S4, by rw [e]; rfl, q⟩
  simp only [e]
theorem w_meth {n : Nat} {ns : List Str} {ds : List D} {p : D} (e0 : fo env S = some (p, S)) (e1 : insAt C S p = some (n, ns, ds)) (hm : m ∉ ns) : Wd (fMeth C m F fo ga env S) Q ↔ Wd (ga env S) fun xs S2 => Wd (F (p :: xs) S2) Q := by
  unfold fMeth
  rw [e0, bnd_some, e1]
  simp only [Option.bind_some, hm, if_false, wd_bnd]
end
/-! ### comprehensions whose elements read the store -/
theorem lc_ext {tg : FG} {ts : FT} {elt : FE} {w : Env} {p : D → Bool} {y : D → D} {S : Store} (hS : SOk S) : ∀ (ds acc : List D),
    (∀ d ∈ ds, ∃ e1, ∀ acc, SOk (S ++ [O.lst acc]) → tg d w (S ++ [O.lst acc]) = some (e1, S ++ [O.lst acc]) ∧ ts e1 (S ++ [O.lst acc]) = some (p d, S ++ [O.lst acc]) ∧ (p d = true → elt e1 (S ++ [O.lst acc]) = some (y d, S ++ [O.lst acc]) ∧ (y d).blw 0 = true)) →
    D.blws 0 acc = true → acc.length + ds.length ≤ sizeLine → lcGo tg ts elt w S.length ds (S ++ [.lst acc]) = some (S ++ [.lst (acc ++ (ds.filter p).map y)])
  | [], acc, _, _, _ => by simp [lcGo]
  | d :: ds, acc, h, ha, hl => by
    obtain ⟨e1, h1⟩ := h d (List.mem_cons_self)
    have hok : SOk (S ++ [.lst acc]) := hS.snoc (by simpa only [O.blw] using ha)
    obtain ⟨h2, h3, h4⟩ := h1 _ hok
    simp only [List.length_cons] at hl
    unfold lcGo
    rw [h2, bnd_some, h3, bnd_some]
    cases hp : p d with
    | true =>
      obtain ⟨h5, h6⟩ := h4 hp
      rw [if_pos rfl, h5, bnd_some]
      have e : (S ++ [O.lst acc])[S.length]? = some (.lst acc) := by simp
      have e2 : (S ++ [O.lst acc]).set S.length (.lst (acc ++ [y d])) = S ++ [.lst (acc ++ [y d])] := by simp
      have ih := lc_ext hS ds (acc ++ [y d]) (fun d hd => h d (List.mem_cons_of_mem _ hd)) (by rw [D.blws_app, ha]; simp [D.blws, h6]) (by simp; omega)
      simp only [e, e2]
      rw [if_pos (by omega), ih]
      simp [hp]
    | false =>
      rw [if_neg Bool.false_ne_true]
      have ih := lc_ext hS ds acc (fun d hd => h d (List.mem_cons_of_mem _ hd)) ha (by omega)
      rw [ih]
      simp [hp]
theorem fLc_ext {it : FA} {tg : FG} {ts : FT} {elt : FE} {vs : List Nat} {env : Env} {S : Store} {ds : List D} (p : D → Bool) (y : D → D) (hS : SOk S) (hi : it env S = some (ds, S))
    (h : ∀ d ∈ ds, ∃ e1, ∀ acc, SOk (S ++ [O.lst acc]) → tg d (wipeE env vs) (S ++ [O.lst acc]) = some (e1, S ++ [O.lst acc]) ∧ ts e1 (S ++ [O.lst acc]) = some (p d, S ++ [O.lst acc]) ∧ (p d = true → elt e1 (S ++ [O.lst acc]) = some (y d, S ++ [O.lst acc]) ∧ (y d).blw 0 = true)) (hl : ds.length ≤ sizeLine) :
    fLc it tg ts elt vs env S = some (.lst ((ds.filter p).map y), S) := by
  have g := lc_ext hS ds [] h rfl (by simpa using hl)
  have hb : D.blws S.length ((ds.filter p).map y) = true := D.blws_mono (Nat.zero_le _) _ ((D.blws_all _).mpr fun d hd => by
    obtain ⟨x, hx, rfl⟩ := List.mem_map.mp hd
    obtain ⟨hx, hp⟩ := List.mem_filter.mp hx
    obtain ⟨e1, h1⟩ := h x hx
    exact ((h1 [] (hS.snoc rfl)).2.2 hp).2)
  unfold fLc fCl fLcM
  rw [hi, bnd_some, g]
  show closeV S.length (.loc S.length) (S ++ [.lst ([] ++ (ds.filter p).map y)]) = _
  unfold closeV
  have e1 : (S ++ [O.lst ([] ++ (ds.filter p).map y)]).take S.length = S := by simp
  rw [e1, if_pos (show S.all (O.blw S.length) = true from hS)]
  simp [hb]
end Mir

set_option Elab.async false
set_option linter.all false
set_option maxRecDepth 100000
set_option autoImplicit false
set_option maxHeartbeats 1000000
namespace K02
open PySem PySem.P PySem.Spec PyProof.Rows L2 Mir
def topS (i : Nat) : Stmt := PySem.Challenge.pw_pagebooks_k02_lines_gone_over_by_scans.main.body.getD i (.Pass ⟨0, 0, 0, 0⟩)
def v_RESERVED : List Str := ["above", "end", "entries", "least", "lengths", "none", "of", "reach", "room", "rule", "shelf", "slots"]
/-- what the walk asks of the top -/
structure Tp (K : PySem.W.Frag) (mg : Str → Option Value) (C_Scan : Addr) : Prop where
  base : True
  z_abs : mg "abs" = none
  z_all : mg "all" = none
  z_bool : mg "bool" = none
  z_int : mg "int" = none
  z_isinstance : mg "isinstance" = none
  z_len : mg "len" = none
  z_max : mg "max" = none
  z_min : mg "min" = none
  z_range : mg "range" = none
  z_repr : mg "repr" = none
  z_str : mg "str" = none
  c_DIGITS : ∃ t, mg "DIGITS" = some (.str "0123456789" t)
  c_LETTERS : ∃ t, mg "LETTERS" = some (.str "abcdefghijklmnopqrstuvwxyz" t)
  c_MOST_SIGNS : ∃ t, mg "MOST_SIGNS" = some (.int 8 t)
  c_RESERVED : TupS K mg "RESERVED" v_RESERVED
  cl_Scan : Cls K C_Scan
  n_Scan_text : NoAttr K C_Scan "text"
  n_Scan_at : NoAttr K C_Scan "at"
  n_Scan_good : NoAttr K C_Scan "good"
abbrev s_can_begin : Stmt := topS 6
theorem sc_can_begin : FnScope ["run", "least", "most", "_lap", "low", "high", "sign"] ["run", "least", "most"] (defScope s_can_begin) := ⟨rfl, rfl, rfl, by decide +kernel, rfl, by decide +kernel, by decide +kernel⟩
def B_can_begin : FS := sCons (sIf (fOr (fNot (fTr (fCall bAll (fCons (fLc (fIt gSeq (fVar 0)) (tgN 6) (tYesF) (fOp (oInN false) (fVar 6) (fC (.str "0123456789"))) [6]) (fNil))))) (fB (fOp oGt (fCall bLen (fCons (fVar 0) (fNil))) (fCall bLen (fCons (fCall bStr (fCons (fVar 2) (fNil))) (fNil)))))) (sRet (fC (.bl false))) (sNil)) (sCons (sIf (fB (fOp oEqX (fOp oIx (fVar 0) (fC (.int 0))) (fC (.str "0")))) (sRet (fAndV (fOp oEqX (fVar 0) (fC (.str "0"))) (fOp oEqX (fVar 1) (fC (.int 0))))) (sNil)) (sCons (sPar 4 5 (fCons (fCall bIntX (fCons (fVar 0) (fNil))) (fCons (fCall bIntX (fCons (fVar 0) (fNil))) (fNil)))) (sCons (sFor (fRng1 (fOp oAdd (fOp oSub (fCall bLen (fCons (fCall bStr (fCons (fVar 2) (fNil))) (fNil))) (fCall bLen (fCons (fVar 0) (fNil)))) (fC (.int 1)))) (tgN 3) (sCons (sIf (fAnd (fB (fOp oGe (fVar 5) (fVar 1))) (fB (fOp oLe (fVar 4) (fVar 2)))) (sRet (fC (.bl true))) (sNil)) (sPar 4 5 (fCons (fOp oMul (fC (.int 10)) (fVar 4)) (fCons (fOp oAdd (fOp oMul (fC (.int 10)) (fVar 5)) (fC (.int 9))) (fNil)))))) (sRet (fC (.bl false))))))
def F_can_begin : FF := fnC closeV 7 3 B_can_begin
abbrev s_Scan___init__ : Stmt := inClass (topS 5) 0
theorem sc_Scan___init__ : FnScope ["self", "text"] ["self", "text"] (defScope s_Scan___init__) := ⟨rfl, rfl, rfl, by decide +kernel, rfl, by decide +kernel, by decide +kernel⟩
def B_Scan___init__ (C_Scan : Addr) : FS := sCons (sFldM C_Scan "text" (fVar 0) (fVar 1)) (sCons (sFldM C_Scan "at" (fVar 0) (fC (.int 0))) (sFldM C_Scan "good" (fVar 0) (fC (.bl true))))
def F_Scan___init__ (C_Scan : Addr) : FF := fnC closeV 2 2 (B_Scan___init__ C_Scan)
abbrev s_Scan_next_sign : Stmt := inClass (topS 5) 1
theorem sc_Scan_next_sign : FnScope ["self"] ["self"] (defScope s_Scan_next_sign) := ⟨rfl, rfl, rfl, by decide +kernel, rfl, by decide +kernel, by decide +kernel⟩
def B_Scan_next_sign (C_Scan : Addr) : FS := sRet (fSl (fFld C_Scan "text" (fVar 0)) (foSome (fFld C_Scan "at" (fVar 0))) (foSome (fOp oAdd (fFld C_Scan "at" (fVar 0)) (fC (.int 1)))))
def F_Scan_next_sign (C_Scan : Addr) : FF := fnC closeV 1 1 (B_Scan_next_sign C_Scan)
abbrev s_Scan_rest_run : Stmt := inClass (topS 5) 2
theorem sc_Scan_rest_run : FnScope ["self", "end"] ["self"] (defScope s_Scan_rest_run) := ⟨rfl, rfl, rfl, by decide +kernel, rfl, by decide +kernel, by decide +kernel⟩
def B_Scan_rest_run (C_Scan : Addr) : FS := sCons (sSet 1 (fFld C_Scan "at" (fVar 0))) (sCons (sWhile 200 (fAnd (fB (fOp oLt (fVar 1) (fCall bLen (fCons (fFld C_Scan "text" (fVar 0)) (fNil))))) (fB (fOp (oInN false) (fOp oIx (fFld C_Scan "text" (fVar 0)) (fVar 1)) (fOp oAdd (fC (.str "abcdefghijklmnopqrstuvwxyz")) (fC (.str "0123456789")))))) (sAug 1 (oI (fun _ _ => true) fun i j => .int (i + j)) (fC (.int 1)))) (sRet (fSl (fFld C_Scan "text" (fVar 0)) (foSome (fFld C_Scan "at" (fVar 0))) (foSome (fVar 1)))))
def F_Scan_rest_run (C_Scan : Addr) : FF := fnC closeV 2 1 (B_Scan_rest_run C_Scan)
abbrev s_Scan_take_word : Stmt := inClass (topS 5) 3
theorem sc_Scan_take_word : FnScope ["self", "word", "sign"] ["self", "word"] (defScope s_Scan_take_word) := ⟨rfl, rfl, rfl, by decide +kernel, rfl, by decide +kernel, by decide +kernel⟩
def B_Scan_take_word (C_Scan : Addr) : FS := sFor (fIt gSeq (fVar 1)) (tgN 2) (sCons (sIf (fOr (fNot (fTr (fFld C_Scan "good" (fVar 0)))) (fB (fOp oNeX (fMeth C_Scan "next_sign" (F_Scan_next_sign C_Scan) (fVar 0) fNil) (fVar 2)))) (sCons (sFldM C_Scan "good" (fVar 0) (fC (.bl false))) (sRetN)) (sNil)) (sFldAugM C_Scan "at" (oI (fun _ _ => true) fun i j => .int (i + j)) (fVar 0) (fC (.int 1))))
def F_Scan_take_word (C_Scan : Addr) : FF := fnC closeV 3 2 (B_Scan_take_word C_Scan)
abbrev s_Scan_take_name : Stmt := inClass (topS 5) 4
theorem sc_Scan_take_name : FnScope ["self", "run"] ["self"] (defScope s_Scan_take_name) := ⟨rfl, rfl, rfl, by decide +kernel, rfl, by decide +kernel, by decide +kernel⟩
def B_Scan_take_name (C_Scan : Addr) : FS := sCons (sSet 1 (fMeth C_Scan "rest_run" (F_Scan_rest_run C_Scan) (fVar 0) fNil)) (sCons (sIf (fOr (fNot (fTr (fFld C_Scan "good" (fVar 0)))) (fOr (fB (fOp oEqX (fVar 1) (fC (.str "")))) (fB (fOp (oInN false) (fOp oIx (fVar 1) (fC (.int 0))) (fC (.str "0123456789")))))) (sCons (sFldM C_Scan "good" (fVar 0) (fC (.bl false))) (sRet (fC (.str "")))) (sNil)) (sCons (sFldAugM C_Scan "at" (oI (fun _ _ => true) fun i j => .int (i + j)) (fVar 0) (fCall bMinX (fCons (fCall bLen (fCons (fVar 1) (fNil))) (fCons (fC (.int 8)) (fNil))))) (sCons (sFldM C_Scan "good" (fVar 0) (fOp (oInN true) (fSl (fVar 1) (foNone) (foSome (fC (.int 8)))) (fC (.tup (v_RESERVED.map .str))))) (sRet (fSl (fVar 1) (foNone) (foSome (fC (.int 8))))))))
def F_Scan_take_name (C_Scan : Addr) : FF := fnC closeV 2 1 (B_Scan_take_name C_Scan)
abbrev s_Scan_shared_with : Stmt := inClass (topS 5) 6
theorem sc_Scan_shared_with : FnScope ["self", "word", "many"] ["self", "word"] (defScope s_Scan_shared_with) := ⟨rfl, rfl, rfl, by decide +kernel, rfl, by decide +kernel, by decide +kernel⟩
def B_Scan_shared_with (C_Scan : Addr) : FS := sCons (sSet 2 (fC (.int 0))) (sCons (sWhile 200 (fAnd (fB (fOp oLt (fVar 2) (fCall bLen (fCons (fVar 1) (fNil))))) (fB (fOp oEqX (fSl (fFld C_Scan "text" (fVar 0)) (foSome (fOp oAdd (fFld C_Scan "at" (fVar 0)) (fVar 2))) (foSome (fOp oAdd (fOp oAdd (fFld C_Scan "at" (fVar 0)) (fVar 2)) (fC (.int 1))))) (fOp oIx (fVar 1) (fVar 2))))) (sAug 2 (oI (fun _ _ => true) fun i j => .int (i + j)) (fC (.int 1)))) (sRet (fVar 2)))
def F_Scan_shared_with (C_Scan : Addr) : FF := fnC closeV 3 2 (B_Scan_shared_with C_Scan)
abbrev s_Scan_take_one_of : Stmt := inClass (topS 5) 5
theorem sc_Scan_take_one_of : FnScope ["self", "words", "shared", "best", "word"] ["self", "words"] (defScope s_Scan_take_one_of) := ⟨rfl, rfl, rfl, by decide +kernel, rfl, by decide +kernel, by decide +kernel⟩
def B_Scan_take_one_of (C_Scan : Addr) : FS := sCons (sSet 2 (fLc (fIt gSeq (fVar 1)) (tgN 4) (tYesF) (fMeth C_Scan "shared_with" (F_Scan_shared_with C_Scan) (fVar 0) (fCons (fVar 4) (fNil))) [4])) (sCons (sSet 3 (fMt "list" mIndex (fVar 2) (fCons (fCall bMaxX (fCons (fVar 2) (fNil))) (fNil)))) (sCons (sDrop (fMeth C_Scan "take_word" (F_Scan_take_word C_Scan) (fVar 0) (fCons (fOp oIx (fVar 1) (fVar 3)) (fNil)))) (sRet (fOp oIx (fVar 1) (fVar 3)))))
def F_Scan_take_one_of (C_Scan : Addr) : FF := fnC closeV 5 2 (B_Scan_take_one_of C_Scan)
abbrev s_Scan_take_number : Stmt := inClass (topS 5) 7
theorem sc_Scan_take_number : FnScope ["self", "least", "most", "run", "many"] ["self", "least", "most"] (defScope s_Scan_take_number) := ⟨rfl, rfl, rfl, by decide +kernel, rfl, by decide +kernel, by decide +kernel⟩
def B_Scan_take_number (C_Scan : Addr) : FS := sCons (sSet 3 (fMeth C_Scan "rest_run" (F_Scan_rest_run C_Scan) (fVar 0) fNil)) (sCons (sSet 4 (fC (.int 0))) (sCons (sWhile 200 (fAnd (fB (fOp oLt (fVar 4) (fCall bLen (fCons (fVar 3) (fNil))))) (fTr (fCall F_can_begin (fCons (fSl (fVar 3) (foNone) (foSome (fOp oAdd (fVar 4) (fC (.int 1))))) (fCons (fVar 1) (fCons (fVar 2) (fNil))))))) (sAug 4 (oI (fun _ _ => true) fun i j => .int (i + j)) (fC (.int 1)))) (sCons (sFldAugM C_Scan "at" (oI (fun _ _ => true) fun i j => .int (i + j)) (fVar 0) (fIf (fTr (fFld C_Scan "good" (fVar 0))) (fVar 4) (fC (.int 0)))) (sCons (sFldM C_Scan "good" (fVar 0) (fAndV (fFld C_Scan "good" (fVar 0)) (fAndV (fOp oGt (fVar 4) (fC (.int 0))) (fChain oLe oLe (fVar 1) (fCall bIntX (fCons (fSl (fVar 3) (foNone) (foSome (fVar 4))) (fNil))) (fVar 2))))) (sRet (fIf (fTr (fFld C_Scan "good" (fVar 0))) (fCall bIntX (fCons (fSl (fVar 3) (foNone) (foSome (fVar 4))) (fNil))) (fC (.int 0))))))))
def F_Scan_take_number (C_Scan : Addr) : FF := fnC closeV 5 3 (B_Scan_take_number C_Scan)
abbrev s_Scan_take_end : Stmt := inClass (topS 5) 8
theorem sc_Scan_take_end : FnScope ["self"] ["self"] (defScope s_Scan_take_end) := ⟨rfl, rfl, rfl, by decide +kernel, rfl, by decide +kernel, by decide +kernel⟩
def B_Scan_take_end (C_Scan : Addr) : FS := sFldM C_Scan "good" (fVar 0) (fAndV (fFld C_Scan "good" (fVar 0)) (fOp oEqX (fFld C_Scan "at" (fVar 0)) (fCall bLen (fCons (fFld C_Scan "text" (fVar 0)) (fNil)))))
def F_Scan_take_end (C_Scan : Addr) : FF := fnC closeV 1 1 (B_Scan_take_end C_Scan)
abbrev s__law_bag : Stmt := topS 8
theorem sc__law_bag : FnScope ["script", "cell"] ["script"] (defScope s__law_bag) := ⟨rfl, rfl, rfl, by decide +kernel, rfl, by decide +kernel, by decide +kernel⟩
def B__law_bag : FS := sRet (fLstM (fCons (fC (.int 0)) (fCons (fC (.int 1234567891)) (fCons (fC (.int 0)) (fCons (fLc (fIt gSeq (fSl (fVar 0) (foNone) (foSome (fC (.int 63))))) (tgN 1) (tYesF) (fCall bAbs (fCons (fVar 1) (fNil))) [1]) (fNil))))))
def F__law_bag : FF := fnC closeP 2 1 B__law_bag
abbrev s__law_take : Stmt := topS 9
theorem sc__law_take : FnScope ["bag", "many", "first", "second", "cell", "stirred", "value"] ["bag", "many"] (defScope s__law_take) := ⟨rfl, rfl, rfl, by decide +kernel, rfl, by decide +kernel, by decide +kernel⟩
def B__law_take : FS := sCons (sIf (fB (fOp oEqX (fOp oIx (fVar 0) (fC (.int 0))) (fC (.int 0)))) (sCons (sSet 4 (fOp oIx (fOp oAdd (fSl (fOp oIx (fVar 0) (fC (.int 3))) (foSome (fOp oIx (fVar 0) (fC (.int 2)))) (foNone)) (fLst (fCons (fC (.int 0)) (fNil)))) (fC (.int 0)))) (sCons (sAugN (fVar 0) (fC (.int 2)) (oI (fun _ _ => true) fun i j => .int (i + j)) (fC (.int 1))) (sCons (sIf (fB (fOp oGe (fVar 4) (fOp oPow (fC (.int 10)) (fC (.int 18))))) (sSub (fVar 4) (fVar 0) (fC (.int 0))) (sNil)) (sCons (sSet 5 (fOp oAdd (fOp oAdd (fOp oMul (fOp oIx (fVar 0) (fC (.int 1))) (fC (.int 48271))) (fOp oMod (fCall bInt (fCons (fVar 4) (fNil))) (fC (.int 2147483647)))) (fOp oMul (fC (.int 7919)) (fOp oIx (fVar 0) (fC (.int 2)))))) (sSub (fOp oMod (fCall bInt (fCons (fVar 5) (fNil))) (fC (.int 2147483647))) (fVar 0) (fC (.int 1))))))) (sNil)) (sCons (sIf (fB (fOp oGt (fOp oIx (fVar 0) (fC (.int 0))) (fC (.int 0)))) (sCons (sSet 6 (fOp oMod (fCall bInt (fCons (fOp oIx (fVar 0) (fC (.int 0))) (fNil))) (fVar 1))) (sCons (sSub (fOp oDiv (fCall bInt (fCons (fOp oIx (fVar 0) (fC (.int 0))) (fNil))) (fVar 1)) (fVar 0) (fC (.int 0))) (sRet (fVar 6)))) (sNil)) (sCons (sSet 2 (fOp oMod (fCall bInt (fCons (fOp oMul (fOp oAdd (fOp oIx (fVar 0) (fC (.int 1))) (fC (.int 1))) (fC (.int 39373))) (fNil))) (fC (.int 1000000007)))) (sCons (sSet 3 (fOp oMod (fCall bInt (fCons (fOp oMul (fOp oMod (fCall bInt (fCons (fOp oMul (fVar 2) (fVar 2)) (fNil))) (fC (.int 998244353))) (fC (.int 30011))) (fNil))) (fC (.int 998244353)))) (sRet (fOp oMod (fCall bInt (fCons (fOp oDiv (fVar 3) (fC (.int 7))) (fNil))) (fVar 1))))))
def F__law_take : FF := fnC closeV 7 2 B__law_take
abbrev s__law_some : Stmt := topS 10
theorem sc__law_some : FnScope ["bag", "things"] ["bag", "things"] (defScope s__law_some) := ⟨rfl, rfl, rfl, by decide +kernel, rfl, by decide +kernel, by decide +kernel⟩
def B__law_some : FS := sRet (fOp oIx (fVar 1) (fCall F__law_take (fCons (fVar 0) (fCons (fCall bLen (fCons (fVar 1) (fNil))) (fNil)))))
def F__law_some : FF := fnC closeV 2 2 B__law_some
abbrev s__law_alike : Stmt := topS 11
theorem sc__law_alike : FnScope ["found", "due"] ["found", "due"] (defScope s__law_alike) := ⟨rfl, rfl, rfl, by decide +kernel, rfl, by decide +kernel, by decide +kernel⟩
def B__law_alike : FS := sRet (fAndV (fOp oEqX (fCall bRepr (fCons (fVar 0) (fNil))) (fCall bRepr (fCons (fVar 1) (fNil)))) (fOp oEqX (fVar 0) (fVar 1)))
def F__law_alike : FF := fnC closeV 2 2 B__law_alike
abbrev s__law_is_called : Stmt := topS 15
theorem sc__law_is_called : FnScope ["thing", "sign"] ["thing"] (defScope s__law_is_called) := ⟨rfl, rfl, rfl, by decide +kernel, rfl, by decide +kernel, by decide +kernel⟩
def B__law_is_called : FS := sCons (sIf (fOr (fNot (fTr (fCall bIsi (fCons (fVar 0) (fCons (fC (.raw (.ty "str"))) (fNil)))))) (fOr (fNot (fB (fChain oLe oLe (fC (.int 1)) (fCall bLen (fCons (fVar 0) (fNil))) (fC (.int 8))))) (fB (fOp (oInN true) (fOp oIx (fVar 0) (fC (.int 0))) (fC (.str "abcdefghijklmnopqrstuvwxyz")))))) (sRet (fC (.bl false))) (sNil)) (sCons (sIf (fB (fOp oNeX (fLc (fIt gSeq (fVar 0)) (tgN 1) (fB (fOp (oInN true) (fVar 1) (fC (.str "abcdefghijklmnopqrstuvwxyz0123456789")))) (fVar 1) [1]) (fLst (fNil)))) (sRet (fC (.bl false))) (sNil)) (sRet (fOp (oInN true) (fVar 0) (fTup (fCons (fC (.str "above")) (fCons (fC (.str "end")) (fCons (fC (.str "entries")) (fCons (fC (.str "least")) (fCons (fC (.str "lengths")) (fCons (fC (.str "none")) (fCons (fC (.str "of")) (fCons (fC (.str "reach")) (fCons (fC (.str "room")) (fCons (fC (.str "rule")) (fCons (fC (.str "shelf")) (fCons (fC (.str "slots")) (fNil)))))))))))))))))
def F__law_is_called : FF := fnC closeV 2 1 B__law_is_called
abbrev s__law_run : Stmt := topS 16
theorem sc__law_run : FnScope ["text", "at", "end", "lap"] ["text", "at"] (defScope s__law_run) := ⟨rfl, rfl, rfl, by decide +kernel, rfl, by decide +kernel, by decide +kernel⟩
def B__law_run : FS := sCons (sSet 2 (fVar 1)) (sCons (sFor (fRng1 (fCall bLen (fCons (fVar 0) (fNil)))) (tgN 3) (sIf (fAnd (fB (fOp oLt (fVar 2) (fCall bLen (fCons (fVar 0) (fNil))))) (fB (fOp (oInN false) (fOp oIx (fVar 0) (fVar 2)) (fC (.str "abcdefghijklmnopqrstuvwxyz0123456789"))))) (sSet 2 (fOp oAdd (fVar 2) (fC (.int 1)))) (sNil))) (sRet (fSl (fVar 0) (foSome (fVar 1)) (foSome (fVar 2)))))
def F__law_run : FF := fnC closeV 4 2 B__law_run
abbrev s__law_is_begun : Stmt := topS 17
theorem sc__law_is_begun : FnScope ["word", "least", "most", "number"] ["word", "least", "most"] (defScope s__law_is_begun) := ⟨rfl, rfl, rfl, by decide +kernel, rfl, by decide +kernel, by decide +kernel⟩
def B__law_is_begun : FS := sRet (fOp oNeX (fLc (fRng2 (fVar 1) (fOp oAdd (fVar 2) (fC (.int 1)))) (tgN 3) (fTr (fMt "str" mStarts (fCall bStr (fCons (fVar 3) (fNil))) (fCons (fVar 0) (fNil)))) (fVar 3) [3]) (fLst (fNil)))
def F__law_is_begun : FF := fnC closeV 4 3 B__law_is_begun
abbrev s__law_gone : Stmt := topS 18
theorem sc__law_gone : FnScope ["text", "at", "ask", "run", "many", "best", "most", "word", "fits", "k"] ["text", "at", "ask"] (defScope s__law_gone) := ⟨rfl, rfl, rfl, by decide +kernel, rfl, by decide +kernel, by decide +kernel⟩
def B__law_gone : FS := sCons (sIf (fB (fOp oEqX (fOp oIx (fVar 2) (fC (.int 0))) (fC (.str "word")))) (sCons (sSet 4 (fCall bMaxX (fCons (fLc (fRng1 (fOp oAdd (fCall bLen (fCons (fOp oIx (fVar 2) (fC (.int 1))) (fNil))) (fC (.int 1)))) (tgN 9) (fB (fOp oEqX (fSl (fVar 0) (foSome (fVar 1)) (foSome (fOp oAdd (fVar 1) (fVar 9)))) (fSl (fOp oIx (fVar 2) (fC (.int 1))) (foNone) (foSome (fVar 9))))) (fVar 9) [9]) (fNil)))) (sRet (fTup (fCons (fOp oAdd (fVar 1) (fVar 4)) (fCons (fOp oEqX (fVar 4) (fCall bLen (fCons (fOp oIx (fVar 2) (fC (.int 1))) (fNil)))) (fCons (fC .non) (fNil))))))) (sNil)) (sCons (sIf (fB (fOp oEqX (fOp oIx (fVar 2) (fC (.int 0))) (fC (.str "end")))) (sRet (fTup (fCons (fVar 1) (fCons (fOp oEqX (fVar 1) (fCall bLen (fCons (fVar 0) (fNil)))) (fCons (fC .non) (fNil)))))) (sNil)) (sCons (sIf (fB (fOp oEqX (fOp oIx (fVar 2) (fC (.int 0))) (fC (.str "one")))) (sCons (sSet 4 (fLc (fIt gSeq (fOp oIx (fVar 2) (fC (.int 1)))) (tgN 7) (tYesF) (fCall bMaxX (fCons (fLc (fRng1 (fOp oAdd (fCall bLen (fCons (fVar 7) (fNil))) (fC (.int 1)))) (tgN 9) (fB (fOp oEqX (fSl (fVar 0) (foSome (fVar 1)) (foSome (fOp oAdd (fVar 1) (fVar 9)))) (fSl (fVar 7) (foNone) (foSome (fVar 9))))) (fVar 9) [9]) (fNil))) [7])) (sCons (sSet 5 (fMt "list" mIndex (fVar 4) (fCons (fCall bMaxX (fCons (fVar 4) (fNil))) (fNil)))) (sRet (fTup (fCons (fOp oAdd (fVar 1) (fOp oIx (fVar 4) (fVar 5))) (fCons (fOp oEqX (fOp oIx (fVar 4) (fVar 5)) (fCall bLen (fCons (fOp oIx (fOp oIx (fVar 2) (fC (.int 1))) (fVar 5)) (fNil)))) (fCons (fOp oIx (fOp oIx (fVar 2) (fC (.int 1))) (fVar 5)) (fNil)))))))) (sNil)) (sCons (sIf (fB (fOp oEqX (fOp oIx (fVar 2) (fC (.int 0))) (fC (.str "number")))) (sCons (sSet 6 (fCall bMaxX (fCons (fLc (fRng1 (fC (.int 5))) (tgN 9) (fAnd (fB (fOp oLe (fVar 9) (fOp oSub (fCall bLen (fCons (fVar 0) (fNil))) (fVar 1)))) (fOr (fB (fOp oEqX (fVar 9) (fC (.int 0)))) (fTr (fCall F__law_is_begun (fCons (fSl (fVar 0) (foSome (fVar 1)) (foSome (fOp oAdd (fVar 1) (fVar 9)))) (fCons (fOp oIx (fVar 2) (fC (.int 1))) (fCons (fOp oIx (fVar 2) (fC (.int 2))) (fNil)))))))) (fVar 9) [9]) (fNil)))) (sCons (sSet 7 (fSl (fVar 0) (foSome (fVar 1)) (foSome (fOp oAdd (fVar 1) (fVar 6))))) (sCons (sSet 8 (fAndV (fOp oNeX (fVar 7) (fC (.str ""))) (fAndV (fCall F__law_is_begun (fCons (fVar 7) (fCons (fOp oIx (fVar 2) (fC (.int 1))) (fCons (fOp oIx (fVar 2) (fC (.int 2))) (fNil))))) (fAndV (fOp oEqX (fCall bStr (fCons (fCall bIntX (fCons (fVar 7) (fNil))) (fNil))) (fVar 7)) (fChain oLe oLe (fOp oIx (fVar 2) (fC (.int 1))) (fCall bIntX (fCons (fVar 7) (fNil))) (fOp oIx (fVar 2) (fC (.int 2)))))))) (sRet (fTup (fCons (fOp oAdd (fVar 1) (fVar 6)) (fCons (fVar 8) (fCons (fIf (fTr (fVar 8)) (fCall bIntX (fCons (fVar 7) (fNil))) (fC .non)) (fNil))))))))) (sNil)) (sCons (sSet 3 (fSl (fCall F__law_run (fCons (fVar 0) (fCons (fVar 1) (fNil)))) (foNone) (foSome (fC (.int 8))))) (sCons (sSet 4 (fIf (fOr (fB (fOp oEqX (fVar 3) (fC (.str "")))) (fB (fOp (oInN false) (fOp oIx (fVar 3) (fC (.int 0))) (fC (.str "0123456789"))))) (fC (.int 0)) (fCall bLen (fCons (fVar 3) (fNil))))) (sRet (fTup (fCons (fOp oAdd (fVar 1) (fVar 4)) (fCons (fCall F__law_is_called (fCons (fSl (fVar 3) (foNone) (foSome (fVar 4))) (fNil))) (fCons (fSl (fVar 3) (foNone) (foSome (fVar 4))) (fNil)))))))))))
def F__law_gone : FF := fnC closeV 10 3 B__law_gone
abbrev s_law : Stmt := topS 19
theorem sc_law : FnScope ["script", "bag", "pieces", "lap", "text", "turn", "scan", "at", "good", "some", "ask", "told", "k", "due"] ["script"] (defScope s_law) := ⟨rfl, rfl, rfl, by decide +kernel, rfl, by decide +kernel, by decide +kernel⟩
def B_law (C_Scan : Addr) : FS := sCons (sSet 1 (fCall F__law_bag (fCons (fVar 0) (fNil)))) (sCons (sSet 2 (fLst (fCons (fC (.str "rule")) (fCons (fC (.str "room")) (fCons (fC (.str "r1")) (fCons (fC (.str "abcdefgh")) (fCons (fC (.str "abcdefghi")) (fCons (fC (.str "of")) (fCons (fC (.str "7")) (fCons (fC (.str "60")) (fCons (fC (.str "61")) (fCons (fC (.str "0")) (fCons (fC (.str "012")) (fCons (fC (.str " ")) (fCons (fC (.str " ")) (fCons (fC (.str "x")) (fCons (fC (.str "-")) (fCons (fC (.str "end")) (fCons (fC (.str "")) (fCons (fC (.str "slots")) (fCons (fC (.str "none")) (fCons (fC (.str "400")) (fNil))))))))))))))))))))))) (sCons (sFor (fRng1 (fC (.int 16))) (tgN 3) (sCons (sSet 4 (fOp mJoin (fC (.str "")) (fLc (fRng1 (fOp oAdd (fC (.int 1)) (fCall F__law_take (fCons (fVar 1) (fCons (fC (.int 6)) (fNil)))))) (tgN 12) (tYesF) (fCall F__law_some (fCons (fVar 1) (fCons (fVar 2) (fNil)))) [12]))) (sCons (sPar3 6 7 8 (fCons (fMake C_Scan (F_Scan___init__ C_Scan) (fCons (fVar 4) (fNil))) (fCons (fC (.int 0)) (fCons (fC (.bl true)) (fNil))))) (sCons (sIf (fB (fOp oNeX (fTup (fCons (fFld C_Scan "text" (fVar 6)) (fCons (fFld C_Scan "at" (fVar 6)) (fCons (fFld C_Scan "good" (fVar 6)) (fNil))))) (fTup (fCons (fVar 4) (fCons (fC (.int 0)) (fCons (fC (.bl true)) (fNil))))))) (sRet (fC (.bl false))) (sNil)) (sFor (fRng1 (fOp oAdd (fC (.int 1)) (fCall F__law_take (fCons (fVar 1) (fCons (fC (.int 6)) (fNil)))))) (tgN 5) (sCons (sSet 9 (fLst (fCons (fTup (fCons (fC (.str "word")) (fCons (fCall F__law_some (fCons (fVar 1) (fCons (fLst (fCons (fC (.str "rule")) (fCons (fC (.str " ")) (fCons (fC (.str "of")) (fCons (fC (.str "end")) (fCons (fC (.str "x")) (fNil))))))) (fNil)))) (fNil)))) (fCons (fTup (fCons (fC (.str "end")) (fNil))) (fCons (fTup (fCons (fC (.str "one")) (fCons (fLst (fCons (fC (.str "put")) (fCons (fC (.str "room")) (fCons (fC (.str "x")) (fNil))))) (fNil)))) (fCons (fTup (fCons (fC (.str "name")) (fNil))) (fNil))))))) (sCons (sSet 10 (fCall F__law_some (fCons (fVar 1) (fCons (fOp oAdd (fVar 9) (fLst (fCons (fTup (fCons (fC (.str "number")) (fCons (fCall F__law_take (fCons (fVar 1) (fCons (fC (.int 3)) (fNil)))) (fCons (fCall F__law_some (fCons (fVar 1) (fCons (fLst (fCons (fC (.int 12)) (fCons (fC (.int 60)) (fCons (fC (.int 400)) (fNil))))) (fNil)))) (fNil))))) (fNil)))) (fNil))))) (sCons (sIf (fB (fOp oEqX (fOp oIx (fVar 10) (fC (.int 0))) (fC (.str "word")))) (sSet 11 (fMeth C_Scan "take_word" (F_Scan_take_word C_Scan) (fVar 6) (fCons (fOp oIx (fVar 10) (fC (.int 1))) (fNil)))) (sIf (fB (fOp oEqX (fOp oIx (fVar 10) (fC (.int 0))) (fC (.str "end")))) (sSet 11 (fMeth C_Scan "take_end" (F_Scan_take_end C_Scan) (fVar 6) fNil)) (sIf (fB (fOp oEqX (fOp oIx (fVar 10) (fC (.int 0))) (fC (.str "one")))) (sSet 11 (fMeth C_Scan "take_one_of" (F_Scan_take_one_of C_Scan) (fVar 6) (fCons (fOp oIx (fVar 10) (fC (.int 1))) (fNil)))) (sIf (fB (fOp oEqX (fOp oIx (fVar 10) (fC (.int 0))) (fC (.str "number")))) (sSet 11 (fMeth C_Scan "take_number" (F_Scan_take_number C_Scan) (fVar 6) (fCons (fOp oIx (fVar 10) (fC (.int 1))) (fCons (fOp oIx (fVar 10) (fC (.int 2))) (fNil))))) (sSet 11 (fMeth C_Scan "take_name" (F_Scan_take_name C_Scan) (fVar 6) fNil)))))) (sCons (sIf (fTr (fVar 8)) (sCons (sTup (tgTup (tgCons (tgN 7) (tgCons (tgN 8) (tgCons (tgN 13) (tgNil))))) (fCall F__law_gone (fCons (fVar 4) (fCons (fVar 7) (fCons (fVar 10) (fNil)))))) (sIf (fAnd (fTr (fVar 8)) (fAnd (fB (fOp (oIsN true) (fVar 13) (fC .non))) (fOr (fB (fOp oNeX (fVar 11) (fVar 13))) (fNot (fTr (fCall F__law_alike (fCons (fVar 11) (fCons (fVar 13) (fNil))))))))) (sRet (fC (.bl false))) (sNil))) (sNil)) (sIf (fOr (fB (fOp oNeX (fFld C_Scan "at" (fVar 6)) (fVar 7))) (fOr (fNot (fTr (fCall F__law_alike (fCons (fCall bBool (fCons (fFld C_Scan "good" (fVar 6)) (fNil))) (fCons (fVar 8) (fNil)))))) (fB (fOp oNeX (fFld C_Scan "text" (fVar 6)) (fVar 4))))) (sRet (fC (.bl false))) (sNil))))))))))) (sRet (fC (.bl true)))))
def F_law (C_Scan : Addr) : FF := fnC closeV 14 1 (B_law C_Scan)
section
variable {P : Program} {w : World} {K : PySem.W.Frag} {mg : Str → Option Value} {base : Heap} {C_Scan : Addr}
theorem g_can_begin {f : Addr} {fd : FuncData} (T : Tp K mg C_Scan) (F0 : Fun K "can_begin" "can_begin" s_can_begin f fd) : FnG P w K mg base 1 f fd ["run", "least", "most"] F_can_begin := by
  refine fnG_ofC closer_V F0 sc_can_begin rfl rfl fun cdv A out s H hu => ?_
  exact dss_cons (ds_if (dt_w (dw_or (dt_not (dt_truth (de_all T.z_all (da_cons (de_lc (is := [6]) (own := [("sign", 6)]) sc_can_begin.nd (di_seq (de_var (i := 0))) (blkOk_by (own := [("sign", 6)]) (N := ["run", "least", "most", "_lap", "low", "high", "sign"]) (sc := defScope s_can_begin) (by decide +kernel)) (fun b1 => dg_name (i := 6) sc_can_begin.nd) (fun b1 => dts_nil) (fun b1 => de_cmp opr_in (rd_inN false) (de_var (i := 6)) (de_gstr T.c_DIGITS))) (da_nil))))) (dw_or1 (dt_cmp op_gt rd_gt (de_len T.z_len (da_cons (de_var (i := 0)) (da_nil))) (de_len T.z_len (da_cons (de_strC T.z_str (da_cons (de_var (i := 2)) (da_nil))) (da_nil))))))) (dss_one (ds_ret (de_bl))) (dss_nil))
    (dss_cons (ds_if (dt_cmp (op_eqX hu.room.units) rd_eqX (de_ix (de_var (i := 0)) (de_int)) (de_str)) (dss_one (ds_ret (de_and (de_cmp (op_eqX hu.room.units) rd_eqX (de_var (i := 0)) (de_str)) (de_one (de_cmp (op_eqX hu.room.units) rd_eqX (de_var (i := 1)) (de_int)))))) (dss_nil))
    (dss_cons (ds_par (i := 4) (j := 5) sc_can_begin.nd (da_cons (de_intX T.z_int (da_cons (de_var (i := 0)) (da_nil))) (da_cons (de_intX T.z_int (da_cons (de_var (i := 0)) (da_nil))) (da_nil))))
    (dss_cons (ds_for PassesOwn.never (di_rng1 T.z_range (de_add (de_sub (de_len T.z_len (da_cons (de_strC T.z_str (da_cons (de_var (i := 2)) (da_nil))) (da_nil))) (de_len T.z_len (da_cons (de_var (i := 0)) (da_nil)))) (de_int))) (dg_name (i := 3) sc_can_begin.nd) (dss_cons (ds_if (dt_w (dw_and (dt_cmp op_ge rd_ge (de_var (i := 5)) (de_var (i := 1))) (dw_and1 (dt_cmp op_le rd_le (de_var (i := 4)) (de_var (i := 2)))))) (dss_one (ds_ret (de_bl))) (dss_nil))
    (dss_one (ds_par (i := 4) (j := 5) sc_can_begin.nd (da_cons (de_mul (de_int) (de_var (i := 4))) (da_cons (de_add (de_mul (de_int) (de_var (i := 5))) (de_int)) (da_nil)))))))
    (dss_one (ds_ret (de_bl))))))
theorem g_Scan___init__ {f : Addr} {fd : FuncData} (T : Tp K mg C_Scan) (F0 : Fun K "__init__" "Scan.__init__" s_Scan___init__ f fd) : FnG P w K mg base 1 f fd ["self", "text"] (F_Scan___init__ C_Scan) := by
  refine fnG_ofC closer_V F0 sc_Scan___init__ rfl rfl fun cdv A out s H hu => ?_
  exact dss_cons (ds_fld T.cl_Scan T.n_Scan_text (de_var (i := 0)) (de_var (i := 1)))
    (dss_cons (ds_fld T.cl_Scan T.n_Scan_at (de_var (i := 0)) (de_int))
    (dss_one (ds_fld T.cl_Scan T.n_Scan_good (de_var (i := 0)) (de_bl))))
theorem g_Scan_next_sign {f : Addr} {fd : FuncData} (T : Tp K mg C_Scan) (F0 : Fun K "next_sign" "Scan.next_sign" s_Scan_next_sign f fd) : FnG P w K mg base 1 f fd ["self"] (F_Scan_next_sign C_Scan) := by
  refine fnG_ofC closer_V F0 sc_Scan_next_sign rfl rfl fun cdv A out s H hu => ?_
  exact dss_one (ds_ret (de_sl (de_fld T.cl_Scan T.n_Scan_text (de_var (i := 0))) (do_some (de_fld T.cl_Scan T.n_Scan_at (de_var (i := 0)))) (do_some (de_add (de_fld T.cl_Scan T.n_Scan_at (de_var (i := 0))) (de_int)))))
theorem g_Scan_rest_run {f : Addr} {fd : FuncData} (T : Tp K mg C_Scan) (F0 : Fun K "rest_run" "Scan.rest_run" s_Scan_rest_run f fd) : FnG P w K mg base 1 f fd ["self"] (F_Scan_rest_run C_Scan) := by
  refine fnG_ofC closer_V F0 sc_Scan_rest_run rfl rfl fun cdv A out s H hu => ?_
  exact dss_cons (ds_set (i := 1) sc_Scan_rest_run.nd (de_fld T.cl_Scan T.n_Scan_at (de_var (i := 0))))
    (dss_cons (ds_while PassesOwn.never (dt_w (dw_and (dt_cmp opr_lt rd_cmp2 (de_var (i := 1)) (de_len T.z_len (da_cons (de_fld T.cl_Scan T.n_Scan_text (de_var (i := 0))) (da_nil)))) (dw_and1 (dt_cmp opr_in (rd_inN false) (de_ix (de_fld T.cl_Scan T.n_Scan_text (de_var (i := 0))) (de_var (i := 1))) (de_add (de_gstr T.c_LETTERS) (de_gstr T.c_DIGITS)))))) (dss_one (ds_aug (j := 1) iop_add rd_iadd sc_Scan_rest_run.nd (de_int))))
    (dss_one (ds_ret (de_sl (de_fld T.cl_Scan T.n_Scan_text (de_var (i := 0))) (do_some (de_fld T.cl_Scan T.n_Scan_at (de_var (i := 0)))) (do_some (de_var (i := 1)))))))
theorem g_Scan_take_word {f : Addr} {fd : FuncData} (T : Tp K mg C_Scan) (F0 : Fun K "take_word" "Scan.take_word" s_Scan_take_word f fd) (M_Scan_next_sign : MDef P w K mg base 1 C_Scan "next_sign" (F_Scan_next_sign C_Scan)) : FnG P w K mg base 2 f fd ["self", "word"] (F_Scan_take_word C_Scan) := by
  refine fnG_ofC closer_V F0 sc_Scan_take_word rfl rfl fun cdv A out s H hu => ?_
  exact dss_one (ds_for PassesOwn.never (di_seq (de_var (i := 1))) (dg_name (i := 2) sc_Scan_take_word.nd) (dss_cons (ds_if (dt_w (dw_or (dt_not (dt_truth (de_fld T.cl_Scan T.n_Scan_good (de_var (i := 0))))) (dw_or1 (dt_cmp (op_neX hu.room.units) rd_neX (de_meth0 (M_Scan_next_sign.mono (by decide)) hu (de_var (i := 0))) (de_var (i := 2)))))) (dss_cons (ds_fld T.cl_Scan T.n_Scan_good (de_var (i := 0)) (de_bl))
    (dss_one (ds_retN))) (dss_nil))
    (dss_one (ds_fldaug T.cl_Scan T.n_Scan_at iop_add rd_iadd (de_var (i := 0)) (de_int)))))
theorem g_Scan_take_name {f : Addr} {fd : FuncData} (T : Tp K mg C_Scan) (F0 : Fun K "take_name" "Scan.take_name" s_Scan_take_name f fd) (M_Scan_rest_run : MDef P w K mg base 1 C_Scan "rest_run" (F_Scan_rest_run C_Scan)) : FnG P w K mg base 2 f fd ["self"] (F_Scan_take_name C_Scan) := by
  refine fnG_ofC closer_V F0 sc_Scan_take_name rfl rfl fun cdv A out s H hu => ?_
  exact dss_cons (ds_set (i := 1) sc_Scan_take_name.nd (de_meth0 (M_Scan_rest_run.mono (by decide)) hu (de_var (i := 0))))
    (dss_cons (ds_if (dt_w (dw_or (dt_not (dt_truth (de_fld T.cl_Scan T.n_Scan_good (de_var (i := 0))))) (dw_or (dt_cmp (op_eqX hu.room.units) rd_eqX (de_var (i := 1)) (de_str)) (dw_or1 (dt_cmp opr_in (rd_inN false) (de_ix (de_var (i := 1)) (de_int)) (de_gstr T.c_DIGITS)))))) (dss_cons (ds_fld T.cl_Scan T.n_Scan_good (de_var (i := 0)) (de_bl))
    (dss_one (ds_ret (de_str)))) (dss_nil))
    (dss_cons (ds_fldaug T.cl_Scan T.n_Scan_at iop_add rd_iadd (de_var (i := 0)) (de_min T.z_min (da_cons (de_len T.z_len (da_cons (de_var (i := 1)) (da_nil))) (da_cons (de_gint T.c_MOST_SIGNS) (da_nil)))))
    (dss_cons (ds_fld T.cl_Scan T.n_Scan_good (de_var (i := 0)) (de_cmp opr_notin (rd_inN true) (de_sl (de_var (i := 1)) (do_none) (do_some (de_gint T.c_MOST_SIGNS))) (de_gtup T.c_RESERVED)))
    (dss_one (ds_ret (de_sl (de_var (i := 1)) (do_none) (do_some (de_gint T.c_MOST_SIGNS))))))))
theorem g_Scan_shared_with {f : Addr} {fd : FuncData} (T : Tp K mg C_Scan) (F0 : Fun K "shared_with" "Scan.shared_with" s_Scan_shared_with f fd) : FnG P w K mg base 1 f fd ["self", "word"] (F_Scan_shared_with C_Scan) := by
  refine fnG_ofC closer_V F0 sc_Scan_shared_with rfl rfl fun cdv A out s H hu => ?_
  exact dss_cons (ds_set (i := 2) sc_Scan_shared_with.nd (de_int))
    (dss_cons (ds_while PassesOwn.never (dt_w (dw_and (dt_cmp opr_lt rd_cmp2 (de_var (i := 2)) (de_len T.z_len (da_cons (de_var (i := 1)) (da_nil)))) (dw_and1 (dt_cmp (op_eqX hu.room.units) rd_eqX (de_sl (de_fld T.cl_Scan T.n_Scan_text (de_var (i := 0))) (do_some (de_add (de_fld T.cl_Scan T.n_Scan_at (de_var (i := 0))) (de_var (i := 2)))) (do_some (de_add (de_add (de_fld T.cl_Scan T.n_Scan_at (de_var (i := 0))) (de_var (i := 2))) (de_int)))) (de_ix (de_var (i := 1)) (de_var (i := 2))))))) (dss_one (ds_aug (j := 2) iop_add rd_iadd sc_Scan_shared_with.nd (de_int))))
    (dss_one (ds_ret (de_var (i := 2)))))
theorem g_Scan_take_one_of {f : Addr} {fd : FuncData} (T : Tp K mg C_Scan) (F0 : Fun K "take_one_of" "Scan.take_one_of" s_Scan_take_one_of f fd) (M_Scan_shared_with : MDef P w K mg base 1 C_Scan "shared_with" (F_Scan_shared_with C_Scan)) (M_Scan_take_word : MDef P w K mg base 2 C_Scan "take_word" (F_Scan_take_word C_Scan)) : FnG P w K mg base 3 f fd ["self", "words"] (F_Scan_take_one_of C_Scan) := by
  refine fnG_ofC closer_V F0 sc_Scan_take_one_of rfl rfl fun cdv A out s H hu => ?_
  exact dss_cons (ds_setLc (j := 2) (is := [4]) (own := [("word", 4)]) sc_Scan_take_one_of.nd (di_seq (de_var (i := 1))) (blkOk_by (own := [("word", 4)]) (N := ["self", "words", "shared", "best", "word"]) (sc := defScope s_Scan_take_one_of) (by decide +kernel)) (fun b1 => dg_name (i := 4) sc_Scan_take_one_of.nd) (fun b1 => dts_nil) (fun b1 => de_meth (M_Scan_shared_with.mono (by decide)) (Up.blk hu _ b1) (de_var (i := 0)) (da_cons (de_var (i := 4)) (da_nil))) (sw_true rfl rfl rfl (by decide +kernel)))
    (dss_cons (ds_set (i := 3) sc_Scan_take_one_of.nd (de_mt PySem.F.plainAttrs_list PySem.F.slot_list_index PySem.F.type_list_index mt_index rm_index (de_var (i := 2)) (da_cons (de_max T.z_max (da_cons (de_var (i := 2)) (da_nil))) (da_nil))))
    (dss_cons (ds_expr (de_meth (M_Scan_take_word.mono (by decide)) hu (de_var (i := 0)) (da_cons (de_ix (de_var (i := 1)) (de_var (i := 3))) (da_nil))))
    (dss_one (ds_ret (de_ix (de_var (i := 1)) (de_var (i := 3)))))))
theorem g_Scan_take_number {f : Addr} {fd : FuncData} (T : Tp K mg C_Scan) (F0 : Fun K "take_number" "Scan.take_number" s_Scan_take_number f fd) {f_can_begin : Addr} (D_can_begin : Def P w K mg base 1 "can_begin" f_can_begin F_can_begin) (M_Scan_rest_run : MDef P w K mg base 1 C_Scan "rest_run" (F_Scan_rest_run C_Scan)) : FnG P w K mg base 2 f fd ["self", "least", "most"] (F_Scan_take_number C_Scan) := by
  refine fnG_ofC closer_V F0 sc_Scan_take_number rfl rfl fun cdv A out s H hu => ?_
  exact dss_cons (ds_set (i := 3) sc_Scan_take_number.nd (de_meth0 (M_Scan_rest_run.mono (by decide)) hu (de_var (i := 0))))
    (dss_cons (ds_set (i := 4) sc_Scan_take_number.nd (de_int))
    (dss_cons (ds_while PassesOwn.never (dt_w (dw_and (dt_cmp opr_lt rd_cmp2 (de_var (i := 4)) (de_len T.z_len (da_cons (de_var (i := 3)) (da_nil)))) (dw_and1 (dt_truth (de_call (D_can_begin.mono (by decide)) hu (da_cons (de_sl (de_var (i := 3)) (do_none) (do_some (de_add (de_var (i := 4)) (de_int)))) (da_cons (de_var (i := 1)) (da_cons (de_var (i := 2)) (da_nil))))))))) (dss_one (ds_aug (j := 4) iop_add rd_iadd sc_Scan_take_number.nd (de_int))))
    (dss_cons (ds_fldaug T.cl_Scan T.n_Scan_at iop_add rd_iadd (de_var (i := 0)) (de_if (dt_truth (de_fld T.cl_Scan T.n_Scan_good (de_var (i := 0)))) (de_var (i := 4)) (de_int)))
    (dss_cons (ds_fld T.cl_Scan T.n_Scan_good (de_var (i := 0)) (de_and (de_fld T.cl_Scan T.n_Scan_good (de_var (i := 0))) (de_and (de_cmp op_gt rd_gt (de_var (i := 4)) (de_int)) (de_one (de_chain op_le op_le rd_le rd_le (de_var (i := 1)) (de_intX T.z_int (da_cons (de_sl (de_var (i := 3)) (do_none) (do_some (de_var (i := 4)))) (da_nil))) (de_var (i := 2)))))))
    (dss_one (ds_ret (de_if (dt_truth (de_fld T.cl_Scan T.n_Scan_good (de_var (i := 0)))) (de_intX T.z_int (da_cons (de_sl (de_var (i := 3)) (do_none) (do_some (de_var (i := 4)))) (da_nil))) (de_int))))))))
theorem g_Scan_take_end {f : Addr} {fd : FuncData} (T : Tp K mg C_Scan) (F0 : Fun K "take_end" "Scan.take_end" s_Scan_take_end f fd) : FnG P w K mg base 1 f fd ["self"] (F_Scan_take_end C_Scan) := by
  refine fnG_ofC closer_V F0 sc_Scan_take_end rfl rfl fun cdv A out s H hu => ?_
  exact dss_one (ds_fld T.cl_Scan T.n_Scan_good (de_var (i := 0)) (de_and (de_fld T.cl_Scan T.n_Scan_good (de_var (i := 0))) (de_one (de_cmp (op_eqX hu.room.units) rd_eqX (de_fld T.cl_Scan T.n_Scan_at (de_var (i := 0))) (de_len T.z_len (da_cons (de_fld T.cl_Scan T.n_Scan_text (de_var (i := 0))) (da_nil)))))))
theorem g__law_bag {f : Addr} {fd : FuncData} (T : Tp K mg C_Scan) (F0 : Fun K "_law_bag" "_law_bag" s__law_bag f fd) : FnG P w K mg base 1 f fd ["script"] F__law_bag := by
  refine fnG_ofC closer_P F0 sc__law_bag rfl rfl fun cdv A out s H hu => ?_
  exact dss_one (ds_ret (de_lstM (da_cons (de_int) (da_cons (de_int) (da_cons (de_int) (da_cons (de_lc (is := [1]) (own := [("cell", 1)]) sc__law_bag.nd (di_seq (de_sl (de_var (i := 0)) (do_none) (do_some (de_int)))) (blkOk_by (own := [("cell", 1)]) (N := ["script", "cell"]) (sc := defScope s__law_bag) (by decide +kernel)) (fun b1 => dg_name (i := 1) sc__law_bag.nd) (fun b1 => dts_nil) (fun b1 => de_abs T.z_abs (da_cons (de_var (i := 1)) (da_nil)))) (da_nil)))))))
theorem g__law_take {f : Addr} {fd : FuncData} (T : Tp K mg C_Scan) (F0 : Fun K "_law_take" "_law_take" s__law_take f fd) : FnG P w K mg base 1 f fd ["bag", "many"] F__law_take := by
  refine fnG_ofC closer_V F0 sc__law_take rfl rfl fun cdv A out s H hu => ?_
  exact dss_cons (ds_if (dt_cmp (op_eqX hu.room.units) rd_eqX (de_ix (de_var (i := 0)) (de_int)) (de_int)) (dss_cons (ds_set (i := 4) sc__law_take.nd (de_ix (de_add (de_sl (de_ix (de_var (i := 0)) (de_int)) (do_some (de_ix (de_var (i := 0)) (de_int))) (do_none)) (de_lst (da_cons (de_int) (da_nil)))) (de_int)))
    (dss_cons (ds_augN iop_add rd_iadd (de_var (i := 0)) (de_int) (de_int))
    (dss_cons (ds_if (dt_cmp op_ge rd_ge (de_var (i := 4)) (de_pow (de_int) (de_int))) (dss_one (ds_sub (de_var (i := 4)) (de_var (i := 0)) (de_int))) (dss_nil))
    (dss_cons (ds_set (i := 5) sc__law_take.nd (de_add (de_add (de_mul (de_ix (de_var (i := 0)) (de_int)) (de_int)) (de_mod (de_intC T.z_int (da_cons (de_var (i := 4)) (da_nil))) (de_int))) (de_mul (de_int) (de_ix (de_var (i := 0)) (de_int)))))
    (dss_one (ds_sub (de_mod (de_intC T.z_int (da_cons (de_var (i := 5)) (da_nil))) (de_int)) (de_var (i := 0)) (de_int))))))) (dss_nil))
    (dss_cons (ds_if (dt_cmp op_gt rd_gt (de_ix (de_var (i := 0)) (de_int)) (de_int)) (dss_cons (ds_set (i := 6) sc__law_take.nd (de_mod (de_intC T.z_int (da_cons (de_ix (de_var (i := 0)) (de_int)) (da_nil))) (de_var (i := 1))))
    (dss_cons (ds_sub (de_div (de_intC T.z_int (da_cons (de_ix (de_var (i := 0)) (de_int)) (da_nil))) (de_var (i := 1))) (de_var (i := 0)) (de_int))
    (dss_one (ds_ret (de_var (i := 6)))))) (dss_nil))
    (dss_cons (ds_set (i := 2) sc__law_take.nd (de_mod (de_intC T.z_int (da_cons (de_mul (de_add (de_ix (de_var (i := 0)) (de_int)) (de_int)) (de_int)) (da_nil))) (de_int)))
    (dss_cons (ds_set (i := 3) sc__law_take.nd (de_mod (de_intC T.z_int (da_cons (de_mul (de_mod (de_intC T.z_int (da_cons (de_mul (de_var (i := 2)) (de_var (i := 2))) (da_nil))) (de_int)) (de_int)) (da_nil))) (de_int)))
    (dss_one (ds_ret (de_mod (de_intC T.z_int (da_cons (de_div (de_var (i := 3)) (de_int)) (da_nil))) (de_var (i := 1))))))))
theorem g__law_some {f : Addr} {fd : FuncData} (T : Tp K mg C_Scan) (F0 : Fun K "_law_some" "_law_some" s__law_some f fd) {f__law_take : Addr} (D__law_take : Def P w K mg base 1 "_law_take" f__law_take F__law_take) : FnG P w K mg base 2 f fd ["bag", "things"] F__law_some := by
  refine fnG_ofC closer_V F0 sc__law_some rfl rfl fun cdv A out s H hu => ?_
  exact dss_one (ds_ret (de_ix (de_var (i := 1)) (de_call (D__law_take.mono (by decide)) hu (da_cons (de_var (i := 0)) (da_cons (de_len T.z_len (da_cons (de_var (i := 1)) (da_nil))) (da_nil))))))
theorem g__law_alike {f : Addr} {fd : FuncData} (T : Tp K mg C_Scan) (F0 : Fun K "_law_alike" "_law_alike" s__law_alike f fd) : FnG P w K mg base 1 f fd ["found", "due"] F__law_alike := by
  refine fnG_ofC closer_V F0 sc__law_alike rfl rfl fun cdv A out s H hu => ?_
  exact dss_one (ds_ret (de_and (de_cmp (op_eqX hu.room.units) rd_eqX (de_repr hu T.z_repr (da_cons (de_var (i := 0)) (da_nil))) (de_repr hu T.z_repr (da_cons (de_var (i := 1)) (da_nil)))) (de_one (de_cmp (op_eqX hu.room.units) rd_eqX (de_var (i := 0)) (de_var (i := 1))))))
theorem g__law_is_called {f : Addr} {fd : FuncData} (T : Tp K mg C_Scan) (F0 : Fun K "_law_is_called" "_law_is_called" s__law_is_called f fd) : FnG P w K mg base 1 f fd ["thing"] F__law_is_called := by
  refine fnG_ofC closer_V F0 sc__law_is_called rfl rfl fun cdv A out s H hu => ?_
  exact dss_cons (ds_if (dt_w (dw_or (dt_not (dt_truth (de_isi T.z_isinstance (da_cons (de_var (i := 0)) (da_cons (de_gty T.z_str boot_str) (da_nil)))))) (dw_or (dt_not (dt_chain op_le op_le rd_le rd_le (de_int) (de_len T.z_len (da_cons (de_var (i := 0)) (da_nil))) (de_int))) (dw_or1 (dt_cmp opr_notin (rd_inN true) (de_ix (de_var (i := 0)) (de_int)) (de_str)))))) (dss_one (ds_ret (de_bl))) (dss_nil))
    (dss_cons (ds_if (dt_cmp (op_neX hu.room.units) rd_neX (de_lc (is := [1]) (own := [("sign", 1)]) sc__law_is_called.nd (di_seq (de_var (i := 0))) (blkOk_by (own := [("sign", 1)]) (N := ["thing", "sign"]) (sc := defScope s__law_is_called) (by decide +kernel)) (fun b1 => dg_name (i := 1) sc__law_is_called.nd) (fun b1 => dts_one (dt_cmp opr_notin (rd_inN true) (de_var (i := 1)) (de_str))) (fun b1 => de_var (i := 1))) (de_lst (da_nil))) (dss_one (ds_ret (de_bl))) (dss_nil))
    (dss_one (ds_ret (de_cmp opr_notin (rd_inN true) (de_var (i := 0)) (de_tup (da_cons (de_str) (da_cons (de_str) (da_cons (de_str) (da_cons (de_str) (da_cons (de_str) (da_cons (de_str) (da_cons (de_str) (da_cons (de_str) (da_cons (de_str) (da_cons (de_str) (da_cons (de_str) (da_cons (de_str) (da_nil))))))))))))))))))
theorem g__law_run {f : Addr} {fd : FuncData} (T : Tp K mg C_Scan) (F0 : Fun K "_law_run" "_law_run" s__law_run f fd) : FnG P w K mg base 1 f fd ["text", "at"] F__law_run := by
  refine fnG_ofC closer_V F0 sc__law_run rfl rfl fun cdv A out s H hu => ?_
  exact dss_cons (ds_set (i := 2) sc__law_run.nd (de_var (i := 1)))
    (dss_cons (ds_for PassesOwn.never (di_rng1 T.z_range (de_len T.z_len (da_cons (de_var (i := 0)) (da_nil)))) (dg_name (i := 3) sc__law_run.nd) (dss_one (ds_if (dt_w (dw_and (dt_cmp opr_lt rd_cmp2 (de_var (i := 2)) (de_len T.z_len (da_cons (de_var (i := 0)) (da_nil)))) (dw_and1 (dt_cmp opr_in (rd_inN false) (de_ix (de_var (i := 0)) (de_var (i := 2))) (de_str))))) (dss_one (ds_set (i := 2) sc__law_run.nd (de_add (de_var (i := 2)) (de_int)))) (dss_nil))))
    (dss_one (ds_ret (de_sl (de_var (i := 0)) (do_some (de_var (i := 1))) (do_some (de_var (i := 2)))))))
theorem g__law_is_begun {f : Addr} {fd : FuncData} (T : Tp K mg C_Scan) (F0 : Fun K "_law_is_begun" "_law_is_begun" s__law_is_begun f fd) : FnG P w K mg base 1 f fd ["word", "least", "most"] F__law_is_begun := by
  refine fnG_ofC closer_V F0 sc__law_is_begun rfl rfl fun cdv A out s H hu => ?_
  exact dss_one (ds_ret (de_cmp (op_neX hu.room.units) rd_neX (de_lc (is := [3]) (own := [("number", 3)]) sc__law_is_begun.nd (di_rng2 T.z_range (de_var (i := 1)) (de_add (de_var (i := 2)) (de_int))) (blkOk_by (own := [("number", 3)]) (N := ["word", "least", "most", "number"]) (sc := defScope s__law_is_begun) (by decide +kernel)) (fun b1 => dg_name (i := 3) sc__law_is_begun.nd) (fun b1 => dts_one (dt_truth (de_mt PySem.F.plainAttrs_str PySem.F.slot_str_startswith PySem.F.type_str_startswith mt_startswith rm_starts (de_strC T.z_str (da_cons (de_var (i := 3)) (da_nil))) (da_cons (de_var (i := 0)) (da_nil))))) (fun b1 => de_var (i := 3))) (de_lst (da_nil))))
theorem g__law_gone {f : Addr} {fd : FuncData} (T : Tp K mg C_Scan) (F0 : Fun K "_law_gone" "_law_gone" s__law_gone f fd) {f__law_is_begun : Addr} (D__law_is_begun : Def P w K mg base 1 "_law_is_begun" f__law_is_begun F__law_is_begun) {f__law_run : Addr} (D__law_run : Def P w K mg base 1 "_law_run" f__law_run F__law_run) {f__law_is_called : Addr} (D__law_is_called : Def P w K mg base 1 "_law_is_called" f__law_is_called F__law_is_called) : FnG P w K mg base 2 f fd ["text", "at", "ask"] F__law_gone := by
  refine fnG_ofC closer_V F0 sc__law_gone rfl rfl fun cdv A out s H hu => ?_
  exact dss_cons (ds_if (dt_cmp (op_eqX hu.room.units) rd_eqX (de_ix (de_var (i := 2)) (de_int)) (de_str)) (dss_cons (ds_set (i := 4) sc__law_gone.nd (de_max T.z_max (da_cons (de_lc (is := [9]) (own := [("k", 9)]) sc__law_gone.nd (di_rng1 T.z_range (de_add (de_len T.z_len (da_cons (de_ix (de_var (i := 2)) (de_int)) (da_nil))) (de_int))) (blkOk_by (own := [("k", 9)]) (N := ["text", "at", "ask", "run", "many", "best", "most", "word", "fits", "k"]) (sc := defScope s__law_gone) (by decide +kernel)) (fun b1 => dg_name (i := 9) sc__law_gone.nd) (fun b1 => dts_one (dt_cmp (op_eqX (Up.blk hu _ b1).room.units) rd_eqX (de_sl (de_var (i := 0)) (do_some (de_var (i := 1))) (do_some (de_add (de_var (i := 1)) (de_var (i := 9))))) (de_sl (de_ix (de_var (i := 2)) (de_int)) (do_none) (do_some (de_var (i := 9)))))) (fun b1 => de_var (i := 9))) (da_nil))))
    (dss_one (ds_ret (de_tup (da_cons (de_add (de_var (i := 1)) (de_var (i := 4))) (da_cons (de_cmp (op_eqX hu.room.units) rd_eqX (de_var (i := 4)) (de_len T.z_len (da_cons (de_ix (de_var (i := 2)) (de_int)) (da_nil)))) (da_cons (de_non) (da_nil)))))))) (dss_nil))
    (dss_cons (ds_if (dt_cmp (op_eqX hu.room.units) rd_eqX (de_ix (de_var (i := 2)) (de_int)) (de_str)) (dss_one (ds_ret (de_tup (da_cons (de_var (i := 1)) (da_cons (de_cmp (op_eqX hu.room.units) rd_eqX (de_var (i := 1)) (de_len T.z_len (da_cons (de_var (i := 0)) (da_nil)))) (da_cons (de_non) (da_nil))))))) (dss_nil))
    (dss_cons (ds_if (dt_cmp (op_eqX hu.room.units) rd_eqX (de_ix (de_var (i := 2)) (de_int)) (de_str)) (dss_cons (ds_setLc (j := 4) (is := [7]) (own := [("word", 7)]) sc__law_gone.nd (di_seq (de_ix (de_var (i := 2)) (de_int))) (blkOk_by (own := [("word", 7)]) (N := ["text", "at", "ask", "run", "many", "best", "most", "word", "fits", "k"]) (sc := defScope s__law_gone) (by decide +kernel)) (fun b1 => dg_name (i := 7) sc__law_gone.nd) (fun b1 => dts_nil) (fun b1 => de_max T.z_max (da_cons (de_lc (is := [9]) (own := [("k", 9)]) sc__law_gone.nd (di_rng1 T.z_range (de_add (de_len T.z_len (da_cons (de_var (i := 7)) (da_nil))) (de_int))) (blkOk_by (own := [("k", 9)]) (N := ["text", "at", "ask", "run", "many", "best", "most", "word", "fits", "k"]) (sc := (L2.relS { kind := .function, names := [ (PySem.Str.ofString ".0", PySem.NameKind.local), (PySem.Str.ofString "word", PySem.NameKind.cell), (PySem.Str.ofString "max", PySem.NameKind.globalImplicit), (PySem.Str.ofString "range", PySem.NameKind.globalImplicit), (PySem.Str.ofString "len", PySem.NameKind.globalImplicit), (PySem.Str.ofString "at", PySem.NameKind.free), (PySem.Str.ofString "text", PySem.NameKind.free)], isGenerator := false, isCoroutine := false } (defScope s__law_gone))) (by decide +kernel)) (fun b2 => dg_name (i := 9) sc__law_gone.nd) (fun b2 => dts_one (dt_cmp (op_eqX (Up.blk (Up.blk hu _ b1) _ b2).room.units) rd_eqX (de_sl (de_var (i := 0)) (do_some (de_var (i := 1))) (do_some (de_add (de_var (i := 1)) (de_var (i := 9))))) (de_sl (de_var (i := 7)) (do_none) (do_some (de_var (i := 9)))))) (fun b2 => de_var (i := 9))) (da_nil))) (sw_true rfl rfl rfl (by decide +kernel)))
    (dss_cons (ds_set (i := 5) sc__law_gone.nd (de_mt PySem.F.plainAttrs_list PySem.F.slot_list_index PySem.F.type_list_index mt_index rm_index (de_var (i := 4)) (da_cons (de_max T.z_max (da_cons (de_var (i := 4)) (da_nil))) (da_nil))))
    (dss_one (ds_ret (de_tup (da_cons (de_add (de_var (i := 1)) (de_ix (de_var (i := 4)) (de_var (i := 5)))) (da_cons (de_cmp (op_eqX hu.room.units) rd_eqX (de_ix (de_var (i := 4)) (de_var (i := 5))) (de_len T.z_len (da_cons (de_ix (de_ix (de_var (i := 2)) (de_int)) (de_var (i := 5))) (da_nil)))) (da_cons (de_ix (de_ix (de_var (i := 2)) (de_int)) (de_var (i := 5))) (da_nil))))))))) (dss_nil))
    (dss_cons (ds_if (dt_cmp (op_eqX hu.room.units) rd_eqX (de_ix (de_var (i := 2)) (de_int)) (de_str)) (dss_cons (ds_set (i := 6) sc__law_gone.nd (de_max T.z_max (da_cons (de_lc (is := [9]) (own := [("k", 9)]) sc__law_gone.nd (di_rng1 T.z_range (de_int)) (blkOk_by (own := [("k", 9)]) (N := ["text", "at", "ask", "run", "many", "best", "most", "word", "fits", "k"]) (sc := defScope s__law_gone) (by decide +kernel)) (fun b1 => dg_name (i := 9) sc__law_gone.nd) (fun b1 => dts_one (dt_w (dw_and (dt_cmp op_le rd_le (de_var (i := 9)) (de_sub (de_len T.z_len (da_cons (de_var (i := 0)) (da_nil))) (de_var (i := 1)))) (dw_and1 (dt_w (dw_or (dt_cmp (op_eqX (Up.blk hu _ b1).room.units) rd_eqX (de_var (i := 9)) (de_int)) (dw_or1 (dt_truth (de_call (D__law_is_begun.mono (by decide)) (Up.blk hu _ b1) (da_cons (de_sl (de_var (i := 0)) (do_some (de_var (i := 1))) (do_some (de_add (de_var (i := 1)) (de_var (i := 9))))) (da_cons (de_ix (de_var (i := 2)) (de_int)) (da_cons (de_ix (de_var (i := 2)) (de_int)) (da_nil))))))))))))) (fun b1 => de_var (i := 9))) (da_nil))))
    (dss_cons (ds_set (i := 7) sc__law_gone.nd (de_sl (de_var (i := 0)) (do_some (de_var (i := 1))) (do_some (de_add (de_var (i := 1)) (de_var (i := 6))))))
    (dss_cons (ds_set (i := 8) sc__law_gone.nd (de_and (de_cmp (op_neX hu.room.units) rd_neX (de_var (i := 7)) (de_str)) (de_and (de_call (D__law_is_begun.mono (by decide)) hu (da_cons (de_var (i := 7)) (da_cons (de_ix (de_var (i := 2)) (de_int)) (da_cons (de_ix (de_var (i := 2)) (de_int)) (da_nil))))) (de_and (de_cmp (op_eqX hu.room.units) rd_eqX (de_strC T.z_str (da_cons (de_intX T.z_int (da_cons (de_var (i := 7)) (da_nil))) (da_nil))) (de_var (i := 7))) (de_one (de_chain op_le op_le rd_le rd_le (de_ix (de_var (i := 2)) (de_int)) (de_intX T.z_int (da_cons (de_var (i := 7)) (da_nil))) (de_ix (de_var (i := 2)) (de_int))))))))
    (dss_one (ds_ret (de_tup (da_cons (de_add (de_var (i := 1)) (de_var (i := 6))) (da_cons (de_var (i := 8)) (da_cons (de_if (dt_truth (de_var (i := 8))) (de_intX T.z_int (da_cons (de_var (i := 7)) (da_nil))) (de_non)) (da_nil)))))))))) (dss_nil))
    (dss_cons (ds_set (i := 3) sc__law_gone.nd (de_sl (de_call (D__law_run.mono (by decide)) hu (da_cons (de_var (i := 0)) (da_cons (de_var (i := 1)) (da_nil)))) (do_none) (do_some (de_int))))
    (dss_cons (ds_set (i := 4) sc__law_gone.nd (de_if (dt_w (dw_or (dt_cmp (op_eqX hu.room.units) rd_eqX (de_var (i := 3)) (de_str)) (dw_or1 (dt_cmp opr_in (rd_inN false) (de_ix (de_var (i := 3)) (de_int)) (de_str))))) (de_int) (de_len T.z_len (da_cons (de_var (i := 3)) (da_nil)))))
    (dss_one (ds_ret (de_tup (da_cons (de_add (de_var (i := 1)) (de_var (i := 4))) (da_cons (de_call (D__law_is_called.mono (by decide)) hu (da_cons (de_sl (de_var (i := 3)) (do_none) (do_some (de_var (i := 4)))) (da_nil))) (da_cons (de_sl (de_var (i := 3)) (do_none) (do_some (de_var (i := 4)))) (da_nil))))))))))))
theorem g_law {f : Addr} {fd : FuncData} (T : Tp K mg C_Scan) (F0 : Fun K "law" "law" s_law f fd) {f__law_bag : Addr} (D__law_bag : Def P w K mg base 1 "_law_bag" f__law_bag F__law_bag) {f__law_take : Addr} (D__law_take : Def P w K mg base 1 "_law_take" f__law_take F__law_take) {f__law_some : Addr} (D__law_some : Def P w K mg base 2 "_law_some" f__law_some F__law_some) {f__law_gone : Addr} (D__law_gone : Def P w K mg base 2 "_law_gone" f__law_gone F__law_gone) {f__law_alike : Addr} (D__law_alike : Def P w K mg base 1 "_law_alike" f__law_alike F__law_alike) (M_Scan_take_word : MDef P w K mg base 2 C_Scan "take_word" (F_Scan_take_word C_Scan)) (M_Scan_take_end : MDef P w K mg base 1 C_Scan "take_end" (F_Scan_take_end C_Scan)) (M_Scan_take_one_of : MDef P w K mg base 3 C_Scan "take_one_of" (F_Scan_take_one_of C_Scan)) (M_Scan_take_number : MDef P w K mg base 2 C_Scan "take_number" (F_Scan_take_number C_Scan)) (M_Scan_take_name : MDef P w K mg base 2 C_Scan "take_name" (F_Scan_take_name C_Scan)) (K_Scan : CDef P w K mg base 1 "Scan" C_Scan (F_Scan___init__ C_Scan)) : FnG P w K mg base 4 f fd ["script"] (F_law C_Scan) := by
  refine fnG_ofC closer_V F0 sc_law rfl rfl fun cdv A out s H hu => ?_
  exact dss_cons (ds_set (i := 1) sc_law.nd (de_call (D__law_bag.mono (by decide)) hu (da_cons (de_var (i := 0)) (da_nil))))
    (dss_cons (ds_set (i := 2) sc_law.nd (de_lst (da_cons (de_str) (da_cons (de_str) (da_cons (de_str) (da_cons (de_str) (da_cons (de_str) (da_cons (de_str) (da_cons (de_str) (da_cons (de_str) (da_cons (de_str) (da_cons (de_str) (da_cons (de_str) (da_cons (de_str) (da_cons (de_str) (da_cons (de_str) (da_cons (de_str) (da_cons (de_str) (da_cons (de_str) (da_cons (de_str) (da_cons (de_str) (da_cons (de_str) (da_nil)))))))))))))))))))))))
    (dss_cons (ds_for PassesOwn.never (di_rng1 T.z_range (de_int)) (dg_name (i := 3) sc_law.nd) (dss_cons (ds_set (i := 4) sc_law.nd (de_join (de_str) (de_lc (is := [12]) (own := [("k", 12)]) sc_law.nd (di_rng1 T.z_range (de_add (de_int) (de_call (D__law_take.mono (by decide)) hu (da_cons (de_var (i := 1)) (da_cons (de_int) (da_nil)))))) (blkOk_by (own := [("k", 12)]) (N := ["script", "bag", "pieces", "lap", "text", "turn", "scan", "at", "good", "some", "ask", "told", "k", "due"]) (sc := defScope s_law) (by decide +kernel)) (fun b1 => dg_name (i := 12) sc_law.nd) (fun b1 => dts_nil) (fun b1 => de_call (D__law_some.mono (by decide)) (Up.blk hu _ b1) (da_cons (de_var (i := 1)) (da_cons (de_var (i := 2)) (da_nil)))))))
    (dss_cons (ds_par3 (i := 6) (j := 7) (l := 8) sc_law.nd (da_cons (de_make (K_Scan.mono (by decide)) hu (da_cons (de_var (i := 4)) (da_nil))) (da_cons (de_int) (da_cons (de_bl) (da_nil)))))
    (dss_cons (ds_if (dt_cmp (op_neX hu.room.units) rd_neX (de_tup (da_cons (de_fld T.cl_Scan T.n_Scan_text (de_var (i := 6))) (da_cons (de_fld T.cl_Scan T.n_Scan_at (de_var (i := 6))) (da_cons (de_fld T.cl_Scan T.n_Scan_good (de_var (i := 6))) (da_nil))))) (de_tup (da_cons (de_var (i := 4)) (da_cons (de_int) (da_cons (de_bl) (da_nil)))))) (dss_one (ds_ret (de_bl))) (dss_nil))
    (dss_one (ds_for PassesOwn.never (di_rng1 T.z_range (de_add (de_int) (de_call (D__law_take.mono (by decide)) hu (da_cons (de_var (i := 1)) (da_cons (de_int) (da_nil)))))) (dg_name (i := 5) sc_law.nd) (dss_cons (ds_set (i := 9) sc_law.nd (de_lst (da_cons (de_tup (da_cons (de_str) (da_cons (de_call (D__law_some.mono (by decide)) hu (da_cons (de_var (i := 1)) (da_cons (de_lst (da_cons (de_str) (da_cons (de_str) (da_cons (de_str) (da_cons (de_str) (da_cons (de_str) (da_nil))))))) (da_nil)))) (da_nil)))) (da_cons (de_tup (da_cons (de_str) (da_nil))) (da_cons (de_tup (da_cons (de_str) (da_cons (de_lst (da_cons (de_str) (da_cons (de_str) (da_cons (de_str) (da_nil))))) (da_nil)))) (da_cons (de_tup (da_cons (de_str) (da_nil))) (da_nil)))))))
    (dss_cons (ds_set (i := 10) sc_law.nd (de_call (D__law_some.mono (by decide)) hu (da_cons (de_var (i := 1)) (da_cons (de_add (de_var (i := 9)) (de_lst (da_cons (de_tup (da_cons (de_str) (da_cons (de_call (D__law_take.mono (by decide)) hu (da_cons (de_var (i := 1)) (da_cons (de_int) (da_nil)))) (da_cons (de_call (D__law_some.mono (by decide)) hu (da_cons (de_var (i := 1)) (da_cons (de_lst (da_cons (de_int) (da_cons (de_int) (da_cons (de_int) (da_nil))))) (da_nil)))) (da_nil))))) (da_nil)))) (da_nil)))))
    (dss_cons (ds_if (dt_cmp (op_eqX hu.room.units) rd_eqX (de_ix (de_var (i := 10)) (de_int)) (de_str)) (dss_one (ds_set (i := 11) sc_law.nd (de_meth (M_Scan_take_word.mono (by decide)) hu (de_var (i := 6)) (da_cons (de_ix (de_var (i := 10)) (de_int)) (da_nil))))) (dss_one (ds_if (dt_cmp (op_eqX hu.room.units) rd_eqX (de_ix (de_var (i := 10)) (de_int)) (de_str)) (dss_one (ds_set (i := 11) sc_law.nd (de_meth0 (M_Scan_take_end.mono (by decide)) hu (de_var (i := 6))))) (dss_one (ds_if (dt_cmp (op_eqX hu.room.units) rd_eqX (de_ix (de_var (i := 10)) (de_int)) (de_str)) (dss_one (ds_set (i := 11) sc_law.nd (de_meth (M_Scan_take_one_of.mono (by decide)) hu (de_var (i := 6)) (da_cons (de_ix (de_var (i := 10)) (de_int)) (da_nil))))) (dss_one (ds_if (dt_cmp (op_eqX hu.room.units) rd_eqX (de_ix (de_var (i := 10)) (de_int)) (de_str)) (dss_one (ds_set (i := 11) sc_law.nd (de_meth (M_Scan_take_number.mono (by decide)) hu (de_var (i := 6)) (da_cons (de_ix (de_var (i := 10)) (de_int)) (da_cons (de_ix (de_var (i := 10)) (de_int)) (da_nil)))))) (dss_one (ds_set (i := 11) sc_law.nd (de_meth0 (M_Scan_take_name.mono (by decide)) hu (de_var (i := 6))))))))))))
    (dss_cons (ds_if (dt_truth (de_var (i := 8))) (dss_cons (ds_asg (de_call (D__law_gone.mono (by decide)) hu (da_cons (de_var (i := 4)) (da_cons (de_var (i := 7)) (da_cons (de_var (i := 10)) (da_nil))))) (dg_tup (dgs_cons (dg_name (i := 7) sc_law.nd) (dgs_cons (dg_name (i := 8) sc_law.nd) (dgs_cons (dg_name (i := 13) sc_law.nd) (dgs_nil))))))
    (dss_one (ds_if (dt_w (dw_and (dt_truth (de_var (i := 8))) (dw_and (dt_cmp op_notN rd_notN (de_var (i := 13)) (de_non)) (dw_and1 (dt_w (dw_or (dt_cmp (op_neX hu.room.units) rd_neX (de_var (i := 11)) (de_var (i := 13))) (dw_or1 (dt_not (dt_truth (de_call (D__law_alike.mono (by decide)) hu (da_cons (de_var (i := 11)) (da_cons (de_var (i := 13)) (da_nil))))))))))))) (dss_one (ds_ret (de_bl))) (dss_nil)))) (dss_nil))
    (dss_one (ds_if (dt_w (dw_or (dt_cmp (op_neX hu.room.units) rd_neX (de_fld T.cl_Scan T.n_Scan_at (de_var (i := 6))) (de_var (i := 7))) (dw_or (dt_not (dt_truth (de_call (D__law_alike.mono (by decide)) hu (da_cons (de_boolC T.z_bool (da_cons (de_fld T.cl_Scan T.n_Scan_good (de_var (i := 6))) (da_nil))) (da_cons (de_var (i := 8)) (da_nil)))))) (dw_or1 (dt_cmp (op_neX hu.room.units) rd_neX (de_fld T.cl_Scan T.n_Scan_text (de_var (i := 6))) (de_var (i := 4))))))) (dss_one (ds_ret (de_bl))) (dss_nil)))))))))))))
    (dss_one (ds_ret (de_bl)))))
end
end K02

set_option Elab.async false
set_option linter.all false
set_option maxRecDepth 100000
set_option autoImplicit false
set_option maxHeartbeats 2000000
/-! Drw: what the shared helpers of the laws are worth, by values: no program in sight. -/
namespace Drw
open PySem L2 Mir
def v_RESERVED : List Str := ["above", "end", "entries", "least", "lengths", "none", "of", "reach", "room", "rule", "shelf", "slots"]
def B_is_integer : FS := sRet (fAndV (fCall bIsi (fCons (fVar 0) (fCons (fC (.raw (.ty "int"))) (fNil)))) (fNotV (fCall bIsi (fCons (fVar 0) (fCons (fC (.raw (.ty "bool"))) (fNil))))))
def F_is_integer : FF := fnC closeV 1 1 B_is_integer
def B_is_count : FS := sRet (fAndV (fCall F_is_integer (fCons (fVar 0) (fNil))) (fOp oGe (fVar 0) (fC (.int 0))))
def F_is_count : FF := fnC closeV 1 1 B_is_count
def B_is_between : FS := sRet (fAndV (fCall F_is_integer (fCons (fVar 0) (fNil))) (fChain oLe oLe (fVar 1) (fVar 0) (fVar 2)))
def F_is_between : FF := fnC closeV 3 3 B_is_between
def B_is_name : FS := sCons (sIf (fOr (fNot (fTr (fCall bIsi (fCons (fVar 0) (fCons (fC (.raw (.ty "str"))) (fNil)))))) (fOr (fNot (fB (fChain oLe oLe (fC (.int 1)) (fCall bLen (fCons (fVar 0) (fNil))) (fC (.int 8))))) (fB (fOp (oInN true) (fOp oIx (fVar 0) (fC (.int 0))) (fC (.str "abcdefghijklmnopqrstuvwxyz")))))) (sRet (fC (.bl false))) (sNil)) (sRet (fAndV (fCall bAll (fCons (fLc (fIt gSeq (fVar 0)) (tgN 1) (tYesF) (fOp (oInN false) (fVar 1) (fOp oAdd (fC (.str "abcdefghijklmnopqrstuvwxyz")) (fC (.str "0123456789")))) [1]) (fNil))) (fOp (oInN true) (fVar 0) (fC (.tup (v_RESERVED.map .str))))))
def F_is_name : FF := fnC closeV 2 1 B_is_name
def B_is_thing : FS := sRet (fCall F_is_between (fCons (fVar 0) (fCons (fC (.int 0)) (fCons (fC (.int 999)) (fNil)))))
def F_is_thing : FF := fnC closeV 1 1 B_is_thing
def B_is_length : FS := sRet (fCall F_is_between (fCons (fVar 0) (fCons (fC (.int 1)) (fCons (fC (.int 12)) (fNil)))))
def F_is_length : FF := fnC closeV 1 1 B_is_length
def B_is_tuple_of (a_is_count a_is_length a_is_name : Addr) : FS := sRet (fAndV (fCall bIsi (fCons (fVar 0) (fCons (fC (.raw (.ty "tuple"))) (fNil)))) (fCall bAll (fCons (fLc (fIt gSeq (fVar 0)) (tgN 2) (tYesF) (fCallV (tabL [(a_is_count, F_is_count), (a_is_name, F_is_name), (a_is_length, F_is_length)]) 1 (fCons (fVar 2) (fNil))) [2]) (fNil))))
def F_is_tuple_of (a_is_count a_is_length a_is_name : Addr) : FF := fnC closeV 3 2 (B_is_tuple_of a_is_count a_is_length a_is_name)
def B_are_ascending : FS := sRet (fCall bAll (fCons (fLc (fZip (fCons (fVar 0) (fCons (fSl (fVar 0) (foSome (fC (.int 1))) (foNone)) (fNil)))) (tgTup (tgCons (tgN 1) (tgCons (tgN 2) (tgNil)))) (tYesF) (fOp oLt (fVar 1) (fVar 2)) [1, 2]) (fNil)))
def F_are_ascending : FF := fnC closeV 3 1 B_are_ascending
def B_is_counts (a_is_count a_is_length a_is_name : Addr) : FS := sRet (fAndV (fCall (F_is_tuple_of a_is_count a_is_length a_is_name) (fCons (fVar 0) (fCons (fC (.raw (.ref a_is_count))) (fNil)))) (fCall F_are_ascending (fCons (fVar 0) (fNil))))
def F_is_counts (a_is_count a_is_length a_is_name : Addr) : FF := fnC closeV 1 1 (B_is_counts a_is_count a_is_length a_is_name)
def B_is_names (a_is_count a_is_length a_is_name : Addr) : FS := sRet (fAndV (fCall (F_is_tuple_of a_is_count a_is_length a_is_name) (fCons (fVar 0) (fCons (fC (.raw (.ref a_is_name))) (fNil)))) (fCall F_are_ascending (fCons (fVar 0) (fNil))))
def F_is_names (a_is_count a_is_length a_is_name : Addr) : FF := fnC closeV 1 1 (B_is_names a_is_count a_is_length a_is_name)
def B_is_names_list (a_is_count a_is_length a_is_name : Addr) : FS := sRet (fAndV (fCall (F_is_tuple_of a_is_count a_is_length a_is_name) (fCons (fVar 0) (fCons (fC (.raw (.ref a_is_name))) (fNil)))) (fOp oEqX (fUn oLenSet (fVar 0)) (fCall bLen (fCons (fVar 0) (fNil)))))
def F_is_names_list (a_is_count a_is_length a_is_name : Addr) : FF := fnC closeV 1 1 (B_is_names_list a_is_count a_is_length a_is_name)
def B__law_bag : FS := sRet (fLstM (fCons (fC (.int 0)) (fCons (fC (.int 1234567891)) (fCons (fC (.int 0)) (fCons (fLc (fIt gSeq (fSl (fVar 0) (foNone) (foSome (fC (.int 63))))) (tgN 1) (tYesF) (fCall bAbs (fCons (fVar 1) (fNil))) [1]) (fNil))))))
def F__law_bag : FF := fnC closeP 2 1 B__law_bag
def B__law_take : FS := sCons (sIf (fB (fOp oEqX (fOp oIx (fVar 0) (fC (.int 0))) (fC (.int 0)))) (sCons (sSet 4 (fOp oIx (fOp oAdd (fSl (fOp oIx (fVar 0) (fC (.int 3))) (foSome (fOp oIx (fVar 0) (fC (.int 2)))) (foNone)) (fLst (fCons (fC (.int 0)) (fNil)))) (fC (.int 0)))) (sCons (sAugN (fVar 0) (fC (.int 2)) (oI (fun _ _ => true) fun i j => .int (i + j)) (fC (.int 1))) (sCons (sIf (fB (fOp oGe (fVar 4) (fOp oPow (fC (.int 10)) (fC (.int 18))))) (sSub (fVar 4) (fVar 0) (fC (.int 0))) (sNil)) (sCons (sSet 5 (fOp oAdd (fOp oAdd (fOp oMul (fOp oIx (fVar 0) (fC (.int 1))) (fC (.int 48271))) (fOp oMod (fCall bInt (fCons (fVar 4) (fNil))) (fC (.int 2147483647)))) (fOp oMul (fC (.int 7919)) (fOp oIx (fVar 0) (fC (.int 2)))))) (sSub (fOp oMod (fCall bInt (fCons (fVar 5) (fNil))) (fC (.int 2147483647))) (fVar 0) (fC (.int 1))))))) (sNil)) (sCons (sIf (fB (fOp oGt (fOp oIx (fVar 0) (fC (.int 0))) (fC (.int 0)))) (sCons (sSet 6 (fOp oMod (fCall bInt (fCons (fOp oIx (fVar 0) (fC (.int 0))) (fNil))) (fVar 1))) (sCons (sSub (fOp oDiv (fCall bInt (fCons (fOp oIx (fVar 0) (fC (.int 0))) (fNil))) (fVar 1)) (fVar 0) (fC (.int 0))) (sRet (fVar 6)))) (sNil)) (sCons (sSet 2 (fOp oMod (fCall bInt (fCons (fOp oMul (fOp oAdd (fOp oIx (fVar 0) (fC (.int 1))) (fC (.int 1))) (fC (.int 39373))) (fNil))) (fC (.int 1000000007)))) (sCons (sSet 3 (fOp oMod (fCall bInt (fCons (fOp oMul (fOp oMod (fCall bInt (fCons (fOp oMul (fVar 2) (fVar 2)) (fNil))) (fC (.int 998244353))) (fC (.int 30011))) (fNil))) (fC (.int 998244353)))) (sRet (fOp oMod (fCall bInt (fCons (fOp oDiv (fVar 3) (fC (.int 7))) (fNil))) (fVar 1))))))
def F__law_take : FF := fnC closeV 7 2 B__law_take
def B__law_some : FS := sRet (fOp oIx (fVar 1) (fCall F__law_take (fCons (fVar 0) (fCons (fCall bLen (fCons (fVar 1) (fNil))) (fNil)))))
def F__law_some : FF := fnC closeV 2 2 B__law_some
def B__law_alike : FS := sRet (fAndV (fOp oEqX (fCall bRepr (fCons (fVar 0) (fNil))) (fCall bRepr (fCons (fVar 1) (fNil)))) (fOp oEqX (fVar 0) (fVar 1)))
def F__law_alike : FF := fnC closeV 2 2 B__law_alike
def B__law_odds : FS := sCons (sSet 0 (fLst (fCons (fC (.int 0)) (fCons (fC (.int 1)) (fCons (fC (.int 2)) (fCons (fC (.int 9)) (fCons (fC (.int 12)) (fCons (fC (.int 13)) (fCons (fC (.int 20)) (fCons (fC (.int 30)) (fCons (fC (.int 59)) (fCons (fC (.int 60)) (fCons (fC (.int 61)) (fCons (fC (.int 199)) (fCons (fC (.int 200)) (fCons (fC (.int 400)) (fCons (fC (.int 401)) (fCons (fC (.int 999)) (fCons (fC (.int 1000)) (fCons (fUn oNeg (fC (.int 1))) (fCons (fOp oPow (fC (.int 10)) (fC (.int 30))) (fCons (fC (.bl true)) (fCons (fC (.bl false)) (fCons (fC .non) (fCons (fUn oNeg (fC (.int 7))) (fCons (fC (.str "")) (fCons (fC (.str "a")) (fCons (fC (.str "z9")) (fCons (fC (.str "A")) (fCons (fC (.str "9a")) (fNil))))))))))))))))))))))))))))))) (sCons (sSet 0 (fOp oAdd (fVar 0) (fLst (fCons (fC (.str "a_b")) (fCons (fC (.str "abcdefgh")) (fCons (fC (.str "abcdefghi")) (fCons (fC (.str "end")) (fCons (fC (.str "rule")) (fCons (fC (.str "none")) (fCons (fC (.str "put")) (fCons (fC (.str "take")) (fCons (fC (.str "cut")) (fCons (fC (.str "rules")) (fCons (fTup (fNil)) (fCons (fTup (fCons (fC (.int 0)) (fNil))) (fCons (fTup (fCons (fC (.int 1)) (fCons (fC (.int 2)) (fNil)))) (fCons (fTup (fCons (fC (.int 2)) (fCons (fC (.int 1)) (fNil)))) (fCons (fTup (fCons (fC (.int 1)) (fCons (fC (.int 1)) (fNil)))) (fCons (fTup (fCons (fC (.int 12)) (fNil))) (fCons (fTup (fCons (fC (.int 13)) (fNil))) (fNil))))))))))))))))))))) (sRet (fOp oAdd (fVar 0) (fLst (fCons (fTup (fCons (fC (.str "a")) (fCons (fC (.str "b")) (fNil)))) (fCons (fTup (fCons (fC (.str "b")) (fCons (fC (.str "a")) (fNil)))) (fCons (fTup (fCons (fC (.str "a")) (fCons (fC (.str "a")) (fNil)))) (fCons (fTup (fCons (fC (.bl true)) (fNil))) (fCons (fLst (fNil)) (fCons (fLst (fCons (fC (.int 1)) (fCons (fC (.int 2)) (fNil)))) (fCons (fDic0) (fCons (fTup (fCons (fTup (fNil)) (fNil))) (fNil)))))))))))))
def F__law_odds : FF := fnC closeV 1 0 B__law_odds
def B__law_whole : FS := sRet (fAndV (fCall bIsi (fCons (fVar 0) (fCons (fC (.raw (.ty "int"))) (fNil)))) (fNotV (fCall bIsi (fCons (fVar 0) (fCons (fC (.raw (.ty "bool"))) (fNil))))))
def F__law_whole : FF := fnC closeV 1 1 B__law_whole
def B__law_is_in : FS := sRet (fAndV (fCall F__law_whole (fCons (fVar 0) (fNil))) (fChain oLe oLe (fVar 1) (fVar 0) (fVar 2)))
def F__law_is_in : FF := fnC closeV 3 3 B__law_is_in
def B__law_is_called : FS := sCons (sIf (fOr (fNot (fTr (fCall bIsi (fCons (fVar 0) (fCons (fC (.raw (.ty "str"))) (fNil)))))) (fOr (fNot (fB (fChain oLe oLe (fC (.int 1)) (fCall bLen (fCons (fVar 0) (fNil))) (fC (.int 8))))) (fB (fOp (oInN true) (fOp oIx (fVar 0) (fC (.int 0))) (fC (.str "abcdefghijklmnopqrstuvwxyz")))))) (sRet (fC (.bl false))) (sNil)) (sCons (sIf (fB (fOp oNeX (fLc (fIt gSeq (fVar 0)) (tgN 1) (fB (fOp (oInN true) (fVar 1) (fC (.str "abcdefghijklmnopqrstuvwxyz0123456789")))) (fVar 1) [1]) (fLst (fNil)))) (sRet (fC (.bl false))) (sNil)) (sRet (fOp (oInN true) (fVar 0) (fTup (fCons (fC (.str "above")) (fCons (fC (.str "end")) (fCons (fC (.str "entries")) (fCons (fC (.str "least")) (fCons (fC (.str "lengths")) (fCons (fC (.str "none")) (fCons (fC (.str "of")) (fCons (fC (.str "reach")) (fCons (fC (.str "room")) (fCons (fC (.str "rule")) (fCons (fC (.str "shelf")) (fCons (fC (.str "slots")) (fNil)))))))))))))))))
def F__law_is_called : FF := fnC closeV 2 1 B__law_is_called
def B__law_rises : FS := sRet (fOp oEqX (fLc (fRng2 (fC (.int 1)) (fCall bLen (fCons (fVar 0) (fNil)))) (tgN 1) (fNot (fB (fOp oLt (fOp oIx (fVar 0) (fOp oSub (fVar 1) (fC (.int 1)))) (fOp oIx (fVar 0) (fVar 1))))) (fVar 1) [1]) (fLst (fNil)))
def F__law_rises : FF := fnC closeV 2 1 B__law_rises
/-! ### the values that are drawn -/
mutual
def th : D → Bool
  | .non => true | .bl _ => true | .int _ => true | .str y => decide (y.length ≤ 100)
  | .tup ds => decide (ds.length ≤ 100) && ths ds | .lst ds => decide (ds.length ≤ 100) && ths ds | .dic _ ds => ths ds
  | _ => false
def ths : List D → Bool
  | [] => true
  | d :: ds => th d && ths ds
end
mutual
theorem th_blw : ∀ d : D, th d = true → d.blw 0 = true
  | .non, _ => by simp only [D.blw]
  | .bl _, _ => by simp only [D.blw]
  | .int _, _ => by simp only [D.blw]
  | .str _, _ => by simp only [D.blw]
  | .tup ds, e => by
    simp only [th, Bool.and_eq_true] at e
    simp only [D.blw]
    exact ths_blw ds e.2
  | .lst ds, e => by
    simp only [th, Bool.and_eq_true] at e
    simp only [D.blw]
    exact ths_blw ds e.2
  | .dic _ ds, e => by
    simp only [th] at e
    simp only [D.blw]
    exact ths_blw ds e
  | .fro _, e => by simp [th] at e
  | .loc _, e => by simp [th] at e
  | .raw _, e => by simp [th] at e
theorem ths_blw : ∀ ds : List D, ths ds = true → D.blws 0 ds = true
  | [], _ => by simp only [D.blws]
  | d :: ds, e => by
    simp only [ths, Bool.and_eq_true] at e
    simp only [D.blws, Bool.and_eq_true]
    exact ⟨th_blw d e.1, ths_blw ds e.2⟩
end
theorem ths_mem : ∀ {ds : List D}, ths ds = true ↔ ∀ d ∈ ds, th d = true
  | [] => by simp [ths]
  | d :: ds => by simp [ths, ths_mem (ds := ds)]
def isI : D → Bool
  | .int _ => true
  | _ => false
def isC : D → Bool
  | .int i => decide (0 ≤ i)
  | _ => false
def isB (lo hi : Int) : D → Bool
  | .int i => decide (lo ≤ i) && decide (i ≤ hi)
  | _ => false
variable {S : Store} {d : D}
theorem ev_isi (b : String) (hk : knownTy b = true) (hd : th d = true) : ∃ a, tyD d = some a ∧ bIsi [d, .raw (.ty b)] S = some (.bl (isTy a b), S) := by
  cases d <;> first
    | (simp [th] at hd; done)
    | exact ⟨_, rfl, by simp [bIsi, hk, tyD]⟩
theorem ev_integer (hS : SOk S) (hd : th d = true) : F_is_integer [d] S = some (.bl (isI d), S) := by
  obtain ⟨a, e1, e2⟩ := ev_isi (S := S) "int" rfl hd
  obtain ⟨a', e3, e4⟩ := ev_isi (S := S) "bool" rfl hd
  rw [e1] at e3
  cases e3
  simp [F_is_integer, B_is_integer, fnC, sRet, sCons, sIf, sSet, sNil, fAndV, fOrV, fCall, fCons, fVar, fC, fNil, bnd, asB, fNotV, fOp, fUn, fNot, fAnd, fOr, fB, fTr, fChain, fIf, fTup, fLst, fSl, foNone, foSome, e2, e4]
  cases d <;> first
    | (simp [th] at hd; done)
    | (cases e1; simp [isI, isTy, closeV_bl hS])
theorem ev_whole (hS : SOk S) (hd : th d = true) : F__law_whole [d] S = some (.bl (isI d), S) := ev_integer hS hd
theorem ev_count (hS : SOk S) (hd : th d = true) : F_is_count [d] S = some (.bl (isC d), S) := by
  simp [F_is_count, B_is_count, fnC, sRet, sCons, sIf, sSet, sNil, fAndV, fOrV, fCall, fCons, fVar, fC, fNil, bnd, asB, fNotV, fOp, fUn, fNot, fAnd, fOr, fB, fTr, fChain, fIf, fTup, fLst, fSl, foNone, foSome, ev_integer hS hd]
  cases d <;> simp [isI, isC, oGe, oI, closeV_bl hS]
theorem ev_between {lo hi : Int} (hS : SOk S) (hd : th d = true) : F_is_between [d, .int lo, .int hi] S = some (.bl (isB lo hi d), S) := by
  simp [F_is_between, B_is_between, fnC, sRet, sCons, sIf, sSet, sNil, fAndV, fOrV, fCall, fCons, fVar, fC, fNil, bnd, asB, fNotV, fOp, fUn, fNot, fAnd, fOr, fB, fTr, fChain, fIf, fTup, fLst, fSl, foNone, foSome, ev_integer hS hd]
  cases d with
  | int i => by_cases h : lo ≤ i <;> simp [isI, isB, oLe, oI, h, closeV_bl hS]
  | _ => simp [isI, isB, closeV_bl hS]
theorem ev_in {lo hi : Int} (hS : SOk S) (hd : th d = true) : F__law_is_in [d, .int lo, .int hi] S = some (.bl (isB lo hi d), S) := by
  simp [F__law_is_in, B__law_is_in, fnC, sRet, sCons, sIf, sSet, sNil, fAndV, fOrV, fCall, fCons, fVar, fC, fNil, bnd, asB, fNotV, fOp, fUn, fNot, fAnd, fOr, fB, fTr, fChain, fIf, fTup, fLst, fSl, foNone, foSome, ev_whole hS hd]
  cases d with
  | int i => by_cases h : lo ≤ i <;> simp [isI, isB, oLe, oI, h, closeV_bl hS]
  | _ => simp [isI, isB, closeV_bl hS]
theorem ev_thing (hS : SOk S) (hd : th d = true) : F_is_thing [d] S = some (.bl (isB 0 999 d), S) := by
  simp [F_is_thing, B_is_thing, fnC, sRet, sCons, sIf, sSet, sNil, fAndV, fOrV, fCall, fCons, fVar, fC, fNil, bnd, asB, fNotV, fOp, fUn, fNot, fAnd, fOr, fB, fTr, fChain, fIf, fTup, fLst, fSl, foNone, foSome, ev_between hS hd, closeV_bl hS]
theorem ev_length (hS : SOk S) (hd : th d = true) : F_is_length [d] S = some (.bl (isB 1 12 d), S) := by
  simp [F_is_length, B_is_length, fnC, sRet, sCons, sIf, sSet, sNil, fAndV, fOrV, fCall, fCons, fVar, fC, fNil, bnd, asB, fNotV, fOp, fUn, fNot, fAnd, fOr, fB, fTr, fChain, fIf, fTup, fLst, fSl, foNone, foSome, ev_between hS hd, closeV_bl hS]
/-! ### names -/
def low : List Nat := ("abcdefghijklmnopqrstuvwxyz" : Str).cps.toList
def alnum : List Nat := ("abcdefghijklmnopqrstuvwxyz0123456789" : Str).cps.toList
/-- a text's own part of being a name -/
def isNS (y : Str) : Bool := decide (1 ≤ y.length) && decide (y.length ≤ 8) && (match y.cps.toList with
    | c :: _ => decide (c ∈ low)
    | [] => false) && y.cps.toList.all (fun c => decide (c ∈ alnum)) && !inV (V.str y) (v_RESERVED.map V.str)
def isN : D → Bool
  | .str y => isNS y
  | _ => false
theorem asBls_map : ∀ bs : List Bool, asBls (bs.map .bl) = some bs
  | [] => rfl
  | b :: bs => by
    show (asBls (bs.map .bl)).map _ = _
    rw [asBls_map bs]
    rfl
theorem sizeLine_le : 100 ≤ sizeLine := by decide
theorem ev_all (bs : List Bool) : bAll [.lst (bs.map .bl)] S = some (.bl (bs.all id), S) := by
  simp [bAll, lsOf, asBls_map]
theorem in_str {c : Nat} {z : Str} {neg : Bool} : oInN neg (.str ⟨#[c]⟩) (.str z) S = some (.bl (if neg then !decide (c ∈ z.cps.toList) else decide (c ∈ z.cps.toList)), S) := by
  simp [oInN]
theorem lets : ("abcdefghijklmnopqrstuvwxyz" : Str) ++ ("0123456789" : Str) = "abcdefghijklmnopqrstuvwxyz0123456789" := by decide +kernel
def chs (y : Str) : List D := y.cps.toList.map fun c => .str ⟨#[c]⟩
theorem len_chs (y : Str) : (chs y).length = y.length := by
  unfold chs
  rw [List.length_map, Array.length_toList]
  rfl
theorem lc_alnum {y : Str} (hS : SOk S) (hy : y.length ≤ 100) : fLc (fIt gSeq (fVar 0)) (tgN 1) tYesF (fOp (oInN false) (fVar 1) (fOp oAdd (fC (.str "abcdefghijklmnopqrstuvwxyz")) (fC (.str "0123456789")))) [1] [some (.str y), none] S =
    some (.lst ((y.cps.toList.map fun c => decide (c ∈ alnum)).map .bl), S) := by
  rw [fLc_map (ds := chs y) (fun d => match d with
    | .str z => .bl (decide (z.cps.toList.headD 0 ∈ alnum))
    | _ => .non) hS rfl (fun d hd => ?_) (by rw [len_chs]; have := sizeLine_le; omega)]
  · simp [chs, Function.comp_def]
    intros
    congr
  · obtain ⟨c, hc, rfl⟩ := List.mem_map.mp hd
    refine ⟨[some (.str y), some (.str ⟨#[c]⟩)], fun S' hS' => ⟨rfl, ?_, rfl⟩⟩
    have e : oAdd (.str "abcdefghijklmnopqrstuvwxyz") (.str "0123456789") S' = some (.str "abcdefghijklmnopqrstuvwxyz0123456789", S') := by
      unfold oAdd
      simp only [lets]
      rfl
    simp [fnC, sRet, sCons, sIf, sSet, sNil, fAndV, fOrV, fCall, fCons, fVar, fC, fNil, bnd, asB, fNotV, fOp, fUn, fNot, fAnd, fOr, fB, fTr, fChain, fIf, fTup, fLst, fSl, foNone, foSome, e, in_str, alnum]
theorem first_low {y : Str} {c : Nat} {r : List Nat} (h : y.cps.toList = c :: r) (hy : y.length ≤ 100) : oIx (.str y) (.int 0) S = some (.str ⟨#[c]⟩, S) := by
  unfold oIx
  have := sizeLine_le
  simp only
  rw [if_pos (by omega), h, atI_zero]
  rfl
theorem resd : D.fvs (v_RESERVED.map .str) = some (v_RESERVED.map V.str) := rfl
theorem in_res {y : Str} : oInN true (.str y) (.tup (v_RESERVED.map .str)) S = some (.bl (!inV (V.str y) (v_RESERVED.map V.str)), S) := by
  simp [oInN, seqOf, resd, D.fv]
theorem len_cps {y : Str} : y.length = y.cps.toList.length := rfl
theorem ev_name (hS : SOk S) (hd : th d = true) : F_is_name [d] S = some (.bl (isN d), S) := by
  obtain ⟨a, e1, e2⟩ := ev_isi (S := S) "str" rfl hd
  have sl := sizeLine_le
  simp [F_is_name, B_is_name, fnC, sRet, sCons, sIf, sSet, sNil, fAndV, fOrV, fCall, fCons, fVar, fC, fNil, bnd, asB, fNotV, fOp, fUn, fNot, fAnd, fOr, fB, fTr, fChain, fIf, fTup, fLst, fSl, foNone, foSome, e2, truD]
  cases d with
  | str y =>
    cases e1
    have hl : y.length ≤ 100 := by simpa [th] using hd
    have el : bLen [.str y] S = some (.int y.length, S) := by simp [bLen]; omega
    have eal := lc_alnum hS hl
    simp only [isTy, el, oLe, oI, isN, isNS]
    by_cases h1 : 1 ≤ y.length ∧ y.length ≤ 8
    · cases hc : y.cps.toList with
      | nil => rw [len_cps, hc] at h1; simp at h1
      | cons c r =>
        have h1' : (1 : Int) ≤ y.length := by omega
        have h2' : (y.length : Int) ≤ 8 := by omega
        rw [hc] at eal
        by_cases h3 : c ∈ low
        · have h3' := h3
          unfold low at h3'
          have hal : (decide (c ∈ alnum) && r.all fun c => decide (c ∈ alnum)) = ((c :: r).map fun c => decide (c ∈ alnum)).all id := by simp [Function.comp_def]
          generalize ((c :: r).map fun c => decide (c ∈ alnum)) = bs at eal hal
          have eb := ev_all (S := S) bs
          generalize bs.all id = b at hal eb
          simp [h1', h2', h1.1, h1.2, first_low hc hl, in_str, h3, h3', eal, eb, hal]
          cases b <;> simp [in_res, closeV_bl hS]
        · have h3' := h3
          unfold low at h3'
          simp [h1', h2', h1.1, h1.2, first_low hc hl, in_str, h3, h3', closeV_bl hS]
    · by_cases h2 : 1 ≤ y.length
      · have h3 : ¬ y.length ≤ 8 := fun z => h1 ⟨h2, z⟩
        have h2' : (1 : Int) ≤ y.length := by omega
        have h3' : ¬ (y.length : Int) ≤ 8 := by omega
        simp [h2, h3, h2', h3', closeV_bl hS]
      · have h2' : ¬ (1 : Int) ≤ y.length := by omega
        simp [h2, h2', closeV_bl hS]
  | _ => first
    | (simp [th] at hd; done)
    | (cases e1; simp [isN, isTy, closeV_bl hS])
/-- what is none of a text's letters, gone over by the law -/
theorem lc_other {y : Str} (hS : SOk S) (hy : y.length ≤ 100) : fLc (fIt gSeq (fVar 0)) (tgN 1) (fB (fOp (oInN true) (fVar 1) (fC (.str "abcdefghijklmnopqrstuvwxyz0123456789")))) (fVar 1) [1] [some (.str y), none] S =
    some (.lst ((chs y).filter fun d => match d with
      | .str z => !decide (z.cps.toList.headD 0 ∈ alnum)
      | _ => false), S) := by
  rw [fLc_pure (ds := chs y) (fun d => match d with
      | .str z => !decide (z.cps.toList.headD 0 ∈ alnum)
      | _ => false) id hS rfl (fun d hd => ?_) (by rw [len_chs]; have := sizeLine_le; omega)]
  · rw [List.map_id]
  · obtain ⟨c, hc, rfl⟩ := List.mem_map.mp hd
    refine ⟨[some (.str y), some (.str ⟨#[c]⟩)], fun S' hS' => ⟨rfl, ?_, fun _ => ⟨rfl, rfl⟩⟩⟩
    simp [fnC, sRet, sCons, sIf, sSet, sNil, fAndV, fOrV, fCall, fCons, fVar, fC, fNil, bnd, asB, fNotV, fOp, fUn, fNot, fAnd, fOr, fB, fTr, fChain, fIf, fTup, fLst, fSl, foNone, foSome, in_str, alnum]
theorem other_empty {y : Str} : ((chs y).filter fun d => match d with
      | .str z => !decide (z.cps.toList.headD 0 ∈ alnum)
      | _ => false).isEmpty = y.cps.toList.all fun c => decide (c ∈ alnum) := by
  unfold chs
  induction y.cps.toList with
  | nil => rfl
  | cons c r ih =>
    rw [List.map_cons, List.filter_cons, List.all_cons, ← ih]
    by_cases h : c ∈ alnum <;> simp [h]
theorem ev_called (hS : SOk S) (hd : th d = true) : F__law_is_called [d] S = some (.bl (isN d), S) := by
  obtain ⟨a, e1, e2⟩ := ev_isi (S := S) "str" rfl hd
  have sl := sizeLine_le
  simp [F__law_is_called, B__law_is_called, fnC, sRet, sCons, sIf, sSet, sNil, fAndV, fOrV, fCall, fCons, fVar, fC, fNil, bnd, asB, fNotV, fOp, fUn, fNot, fAnd, fOr, fB, fTr, fChain, fIf, fTup, fLst, fSl, foNone, foSome, e2, truD]
  cases d with
  | str y =>
    cases e1
    have hl : y.length ≤ 100 := by simpa [th] using hd
    have el : bLen [.str y] S = some (.int y.length, S) := by simp [bLen]; omega
    have eal := lc_other hS hl
    have eem := other_empty (y := y)
    have eres := in_res (y := y) (S := S)
    have s12 : 12 ≤ sizeLine := by omega
    simp only [v_RESERVED, List.map_cons, List.map_nil] at eres
    generalize ((chs y).filter fun d => match d with
      | .str z => !decide (z.cps.toList.headD 0 ∈ alnum)
      | _ => false) = xs at eal eem
    simp only [isTy, el, oLe, oI, isN, isNS]
    rw [← eem]
    by_cases h1 : 1 ≤ y.length ∧ y.length ≤ 8
    · cases hc : y.cps.toList with
      | nil => rw [len_cps, hc] at h1; simp at h1
      | cons c r =>
        have h1' : (1 : Int) ≤ y.length := by omega
        have h2' : (y.length : Int) ≤ 8 := by omega
        by_cases h3 : c ∈ low
        · have h3' := h3
          unfold low at h3'
          have en := oNeX_nil (S := S) xs
          generalize xs.isEmpty = b at en ⊢
          simp [h1', h2', h1.1, h1.2, first_low hc hl, in_str, h3, h3', eal, en]
          cases b <;> simp [closeV_bl hS, eres, s12, v_RESERVED]
        · have h3' := h3
          unfold low at h3'
          simp [h1', h2', h1.1, h1.2, first_low hc hl, in_str, h3, h3', closeV_bl hS]
    · by_cases h2 : 1 ≤ y.length
      · have h3 : ¬ y.length ≤ 8 := fun z => h1 ⟨h2, z⟩
        have h2' : (1 : Int) ≤ y.length := by omega
        have h3' : ¬ (y.length : Int) ≤ 8 := by omega
        simp [h2, h3, h2', h3', closeV_bl hS]
      · have h2' : ¬ (1 : Int) ≤ y.length := by omega
        simp [h2, h2', closeV_bl hS]
  | _ => first
    | (simp [th] at hd; done)
    | (cases e1; simp [isN, isTy, closeV_bl hS])
/-! ### tuples -/
def tupAll (f : D → Bool) : D → Bool
  | .tup ds => ds.all f
  | _ => false
theorem ev_tuple_of {ac al an a : Addr} {F : FF} {f : D → Bool} (hS : SOk S) (hd : th d = true) (ht : tabL [(ac, F_is_count), (an, F_is_name), (al, F_is_length)] a = some F)
    (hF : ∀ x S', SOk S' → th x = true → F [x] S' = some (.bl (f x), S')) : F_is_tuple_of ac al an [d, .raw (.ref a)] S = some (.bl (tupAll f d), S) := by
  obtain ⟨t, e1, e2⟩ := ev_isi (S := S) "tuple" rfl hd
  have sl := sizeLine_le
  simp [F_is_tuple_of, B_is_tuple_of, fnC, sRet, sCons, sIf, sSet, sNil, fAndV, fOrV, fCall, fCons, fVar, fC, fNil, bnd, asB, fNotV, fOp, fUn, fNot, fAnd, fOr, fB, fTr, fChain, fIf, fTup, fLst, fSl, foNone, foSome, e2]
  cases d with
  | tup ds =>
    cases e1
    simp only [th, Bool.and_eq_true, decide_eq_true_eq] at hd
    have hm := ths_mem.mp hd.2
    have elc : fLc (fIt gSeq (fVar 0)) (tgN 2) tYesF (fCallV (tabL [(ac, F_is_count), (an, F_is_name), (al, F_is_length)]) 1 (fCons (fVar 2) fNil)) [2] [some (.tup ds), some (.raw (.ref a)), none] S = some (.lst ((ds.map f).map .bl), S) := by
      rw [fLc_map (ds := ds) (fun x => .bl (f x)) hS rfl (fun x hx => ?_) (by omega)]
      · rw [List.map_map]
        rfl
      · refine ⟨[some (.tup ds), some (.raw (.ref a)), some x], fun S' hS' => ⟨rfl, ?_, rfl⟩⟩
        simp [fCallV, ht, fnC, sRet, sCons, sIf, sSet, sNil, fAndV, fOrV, fCall, fCons, fVar, fC, fNil, bnd, asB, fNotV, fOp, fUn, fNot, fAnd, fOr, fB, fTr, fChain, fIf, fTup, fLst, fSl, foNone, foSome, hF x S' hS' (hm x hx)]
    have eb := ev_all (S := S) (ds.map f)
    have ea : ds.all f = (ds.map f).all id := by simp [Function.comp_def]
    simp only [tupAll]
    rw [ea]
    generalize (ds.map f) = bs at elc eb ⊢
    generalize bs.all id = b at eb ⊢
    simp [isTy, elc, eb, closeV_bl hS]
  | _ => first
    | (simp [th] at hd; done)
    | (cases e1; simp [tupAll, isTy, closeV_bl hS])
def isS : D → Bool
  | .str _ => true
  | _ => false
def ltD : D → D → Bool
  | .int i, .int j => decide (i < j)
  | .str i, .str j => strLt i j
  | _, _ => false
def alikeK (ds : List D) : Prop := (∀ d ∈ ds, isI d = true) ∨ (∀ d ∈ ds, isS d = true)
theorem oLt_ok {x y : D} (h : (isI x = true ∧ isI y = true) ∨ (isS x = true ∧ isS y = true)) : oLt x y S = some (.bl (ltD x y), S) := by
  cases x <;> cases y <;> first
    | rfl
    | (simp [isI, isS] at h; done)
theorem alikeK.two {ds : List D} (h : alikeK ds) {x y : D} (hx : x ∈ ds) (hy : y ∈ ds) : (isI x = true ∧ isI y = true) ∨ (isS x = true ∧ isS y = true) :=
  h.imp (fun h => ⟨h x hx, h y hy⟩) (fun h => ⟨h x hx, h y hy⟩)
def risesB : List D → Bool
  | x :: y :: r => ltD x y && risesB (y :: r)
  | _ => true
theorem zip_rises : ∀ ds : List D, (zipD ds (ds.drop 1)).all (fun d => match d with
    | .tup [x, y] => ltD x y
    | _ => false) = risesB ds
  | [] => rfl
  | [x] => rfl
  | x :: y :: r => by
    have ih := zip_rises (y :: r)
    show (ltD x y && (zipD (y :: r) ((y :: r).drop 1)).all _) = (ltD x y && risesB (y :: r))
    rw [ih]
theorem zip_mem : ∀ {xs ys : List D} {d : D}, d ∈ zipD xs ys → ∃ x y, x ∈ xs ∧ y ∈ ys ∧ d = .tup [x, y]
  | x :: xs, y :: ys, d, h => by
    rcases List.mem_cons.mp (show d ∈ D.tup [x, y] :: zipD xs ys from h) with rfl | h
    · exact ⟨x, y, List.mem_cons_self, List.mem_cons_self, rfl⟩
    · obtain ⟨a, b, h1, h2, h3⟩ := zip_mem h
      exact ⟨a, b, List.mem_cons_of_mem _ h1, List.mem_cons_of_mem _ h2, h3⟩
  | [], _, _, h => by simp [zipD] at h
  | _ :: _, [], _, h => by simp [zipD] at h
theorem zip_le : ∀ {xs ys : List D}, (zipD xs ys).length ≤ xs.length
  | x :: xs, y :: ys => Nat.succ_le_succ zip_le
  | [], _ => Nat.le_refl _
  | _ :: _, [] => Nat.zero_le _
theorem cut1 (ds : List D) : cutD ds (some 1) none = ds.drop 1 := by
  unfold cutD
  rw [show HT.sIx ds.length 0 (some 1) = min 1 ds.length from HT.sIx_nat ds.length 0 1, HT.sIx_none]
  cases ds with
  | nil => rfl
  | cons x r =>
    have e : min 1 (x :: r).length = 1 := by
      rw [List.length_cons]
      omega
    rw [e]
    show r.take ((r.length + 1) - 1) = r
    simp
theorem ev_asc {ds : List D} (hS : SOk S) (hl : ds.length ≤ 100) (hk : alikeK ds) : F_are_ascending [.tup ds] S = some (.bl (risesB ds), S) := by
  have sl := sizeLine_le
  have elc : fLc (fZip (fCons (fVar 0) (fCons (fSl (fVar 0) (foSome (fC (.int 1))) foNone) fNil))) (tgTup (tgCons (tgN 1) (tgCons (tgN 2) tgNil))) tYesF (fOp oLt (fVar 1) (fVar 2)) [1, 2] [some (.tup ds), none, none] S =
      some (.lst (((zipD ds (ds.drop 1)).map fun d => match d with
        | .tup [x, y] => ltD x y
        | _ => false).map .bl), S) := by
    rw [fLc_map (ds := zipD ds (ds.drop 1)) (fun d => .bl (match d with
        | .tup [x, y] => ltD x y
        | _ => false)) hS ?_ (fun d hd => ?_) (Nat.le_trans zip_le (by omega))]
    · rw [List.map_map]
      rfl
    · simp [fZip, fnC, sRet, sCons, sIf, sSet, sNil, fAndV, fOrV, fCall, fCons, fVar, fC, fNil, bnd, asB, fNotV, fOp, fUn, fNot, fAnd, fOr, fB, fTr, fChain, fIf, fTup, fLst, fSl, foNone, foSome, oSl, asI, cut1, Mir.gTup]
    · obtain ⟨x, y, hx, hy, rfl⟩ := zip_mem hd
      refine ⟨[some (.tup ds), some x, some y], fun S' hS' => ⟨rfl, ?_, rfl⟩⟩
      have := oLt_ok (S := S') (hk.two hx (List.mem_of_mem_drop hy))
      simp [fnC, sRet, sCons, sIf, sSet, sNil, fAndV, fOrV, fCall, fCons, fVar, fC, fNil, bnd, asB, fNotV, fOp, fUn, fNot, fAnd, fOr, fB, fTr, fChain, fIf, fTup, fLst, fSl, foNone, foSome, this]
  have ez := zip_rises ds
  have eb := ev_all (S := S) ((zipD ds (ds.drop 1)).map fun d => match d with
        | .tup [x, y] => ltD x y
        | _ => false)
  rw [List.all_map] at eb
  simp only [Function.comp_def, id] at eb
  rw [ez] at eb
  generalize ((zipD ds (ds.drop 1)).map fun d => match d with
        | .tup [x, y] => ltD x y
        | _ => false) = bs at elc eb
  simp [F_are_ascending, B_are_ascending, fnC, sRet, sCons, sIf, sSet, sNil, fAndV, fOrV, fCall, fCons, fVar, fC, fNil, bnd, asB, fNotV, fOp, fUn, fNot, fAnd, fOr, fB, fTr, fChain, fIf, fTup, fLst, fSl, foNone, foSome, elc, eb, closeV_bl hS]

theorem range_rises : ∀ ds : List D, ((List.range (ds.length - 1)).all fun i => ltD (ds.getD i .non) (ds.getD (i + 1) .non)) = risesB ds
  | [] => rfl
  | [x] => rfl
  | x :: y :: r => by
    have ih := range_rises (y :: r)
    have e : (x :: y :: r).length - 1 = ((y :: r).length - 1) + 1 := by simp
    rw [e, List.range_succ_eq_map, List.all_cons, List.all_map, risesB, ← ih]
    rfl
theorem ev_rises {ds : List D} (hS : SOk S) (hl : ds.length ≤ 100) (hk : alikeK ds) : F__law_rises [.tup ds] S = some (.bl (risesB ds), S) := by
  have sl := sizeLine_le
  have ib : ∀ i, i + 1 < ds.length → ∃ x y, ds[i]? = some x ∧ ds[i + 1]? = some y ∧ x ∈ ds ∧ y ∈ ds := fun i hi =>
    ⟨ds[i], ds[i + 1], List.getElem?_eq_getElem _, List.getElem?_eq_getElem _, List.getElem_mem _, List.getElem_mem _⟩
  have rl : (rng 1 ds.length).length ≤ 100 := by simp [rng]; omega
  have elc : fLc (fRng2 (fC (.int 1)) (fCall bLen (fCons (fVar 0) fNil))) (tgN 1) (fNot (fB (fOp oLt (fOp oIx (fVar 0) (fOp oSub (fVar 1) (fC (.int 1)))) (fOp oIx (fVar 0) (fVar 1))))) (fVar 1) [1] [some (.tup ds), none] S =
      some (.lst ((rng 1 ds.length).filter fun d => match d with
        | .int i => !ltD (ds.getD (i.toNat - 1) .non) (ds.getD i.toNat .non)
        | _ => false), S) := by
    rw [fLc_pure (ds := rng 1 ds.length) (fun d => match d with
        | .int i => !ltD (ds.getD (i.toNat - 1) .non) (ds.getD i.toNat .non)
        | _ => false) id hS ?_ (fun d hd => ?_) (by omega)]
    · rw [List.map_id]
    · simp [fRng2, fnC, sRet, sCons, sIf, sSet, sNil, fAndV, fOrV, fCall, fCons, fVar, fC, fNil, bnd, asB, fNotV, fOp, fUn, fNot, fAnd, fOr, fB, fTr, fChain, fIf, fTup, fLst, fSl, foNone, foSome, asI, bLen, seqOf, okR]
      omega
    · obtain ⟨i, hi, rfl⟩ := List.mem_map.mp hd
      have hi : i < ((ds.length : Int) - 1).toNat := List.mem_range.mp hi
      obtain ⟨x, y, h1, h2, hx, hy⟩ := ib i (by omega)
      refine ⟨[some (.tup ds), some (.int (1 + i))], fun S' hS' => ⟨rfl, ?_, fun _ => ⟨rfl, rfl⟩⟩⟩
      have lt := oLt_ok (S := S') (hk.two hx hy)
      have e1 : oIx (.tup ds) (.int (1 + (i : Int) - 1)) S' = some (x, S') := by
        have e : (1 + (i : Int) - 1) = ((i : Nat) : Int) := by omega
        rw [e]
        have e9 : atI ds ((i : Nat) : Int) = some x := atI_nat h1
        simp only [oIx, seqOf, Option.bind_some, e9, Option.map_some]
      have e2 : oIx (.tup ds) (.int (1 + (i : Int))) S' = some (y, S') := by
        have e : (1 + (i : Int)) = ((i + 1 : Nat) : Int) := by omega
        rw [e]
        have e9 : atI ds ((i + 1 : Nat) : Int) = some y := atI_nat h2
        simp only [oIx, seqOf, Option.bind_some, e9, Option.map_some]
      have e3 : (1 + (i : Int)).toNat = i + 1 := by omega
      simp [fnC, sRet, sCons, sIf, sSet, sNil, fAndV, fOrV, fCall, fCons, fVar, fC, fNil, bnd, asB, fNotV, fOp, fUn, fNot, fAnd, fOr, fB, fTr, fChain, fIf, fTup, fLst, fSl, foNone, foSome, oSub, oI, e1, e2, lt, e3, h1, h2]
  have ee : ((rng 1 ds.length).filter fun d => match d with
        | .int i => !ltD (ds.getD (i.toNat - 1) .non) (ds.getD i.toNat .non)
        | _ => false).isEmpty = risesB ds := by
    rw [← range_rises ds]
    have en : ((ds.length : Int) - 1).toNat = ds.length - 1 := by omega
    unfold rng
    rw [en]
    generalize ds.length - 1 = n
    rw [Bool.eq_iff_iff, List.isEmpty_iff, List.filter_eq_nil_iff]
    simp only [List.mem_map, List.mem_range, List.all_eq_true, forall_exists_index, and_imp, forall_apply_eq_imp_iff₂, Bool.not_eq_true', Bool.not_eq_false]
    constructor
    · intro h i hi
      have := h i hi
      have e3 : (1 + (i : Int)).toNat = i + 1 := by omega
      simpa [e3] using this
    · intro h i hi
      have := h i hi
      have e3 : (1 + (i : Int)).toNat = i + 1 := by omega
      simpa [e3] using this
  have en := oEqX_nil (S := S) ((rng 1 ds.length).filter fun d => match d with
        | .int i => !ltD (ds.getD (i.toNat - 1) .non) (ds.getD i.toNat .non)
        | _ => false)
  rw [ee] at en
  generalize ((rng 1 ds.length).filter fun d => match d with
        | .int i => !ltD (ds.getD (i.toNat - 1) .non) (ds.getD i.toNat .non)
        | _ => false) = xs at elc en
  simp [F__law_rises, B__law_rises, fnC, sRet, sCons, sIf, sSet, sNil, fAndV, fOrV, fCall, fCons, fVar, fC, fNil, bnd, asB, fNotV, fOp, fUn, fNot, fAnd, fOr, fB, fTr, fChain, fIf, fTup, fLst, fSl, foNone, foSome, elc, en, closeV_bl hS]
/-! ### what is told of a value -/
def cntB (d : D) : Bool := tupAll isC d && (match d with
  | .tup ds => risesB ds
  | _ => false)
def nmsB (d : D) : Bool := tupAll isN d && (match d with
  | .tup ds => risesB ds
  | _ => false)
def nmlB (d : D) : Bool := tupAll isN d && (match d with
  | .tup ds => (match asStrs ds with
    | some xs => decide (((dedupS xs).length : Int) = ds.length)
    | none => false)
  | _ => false)
theorem alike_isC {ds : List D} (h : ds.all isC = true) : alikeK ds := .inl fun d hd => by
  have := List.all_eq_true.mp h d hd
  cases d <;> simp_all [isC, isI]
theorem alike_isN {ds : List D} (h : ds.all isN = true) : alikeK ds := .inr fun d hd => by
  have := List.all_eq_true.mp h d hd
  cases d <;> simp_all [isN, isS]
theorem strs_of : ∀ {ds : List D}, ds.all isN = true → ∃ xs, asStrs ds = some xs ∧ xs.length = ds.length
  | [], _ => ⟨[], rfl, rfl⟩
  | d :: ds, h => by
    rw [List.all_cons, Bool.and_eq_true] at h
    obtain ⟨xs, e1, e2⟩ := strs_of h.2
    cases d with
    | str y => exact ⟨y :: xs, by show (asStrs ds).map _ = _; rw [e1]; rfl, by simp [e2]⟩
    | _ => simp [isN] at h
structure Apart (ac al an : Addr) : Prop where
  h1 : an ≠ ac
  h2 : al ≠ ac
  h3 : al ≠ an
section
variable {ac al an : Addr} (hA : Apart ac al an)
include hA
theorem ev_tc (hS : SOk S) (hd : th d = true) : F_is_tuple_of ac al an [d, .raw (.ref ac)] S = some (.bl (tupAll isC d), S) :=
  ev_tuple_of (F := F_is_count) hS hd (by simp [tabL]) fun x S' h1 h2 => ev_count h1 h2
theorem ev_tn (hS : SOk S) (hd : th d = true) : F_is_tuple_of ac al an [d, .raw (.ref an)] S = some (.bl (tupAll isN d), S) :=
  ev_tuple_of (F := F_is_name) hS hd (by simp [tabL, hA.h1]) fun x S' h1 h2 => ev_name h1 h2
theorem ev_tl (hS : SOk S) (hd : th d = true) : F_is_tuple_of ac al an [d, .raw (.ref al)] S = some (.bl (tupAll (isB 1 12) d), S) :=
  ev_tuple_of (F := F_is_length) hS hd (by simp [tabL, hA.h2, hA.h3]) fun x S' h1 h2 => ev_length h1 h2
theorem ev_counts (hS : SOk S) (hd : th d = true) : F_is_counts ac al an [d] S = some (.bl (cntB d), S) := by
  have e := ev_tc hA hS hd
  simp [F_is_counts, B_is_counts, fnC, sRet, sCons, sIf, sSet, sNil, fAndV, fOrV, fCall, fCons, fVar, fC, fNil, bnd, asB, fNotV, fOp, fUn, fNot, fAnd, fOr, fB, fTr, fChain, fIf, fTup, fLst, fSl, foNone, foSome, e]
  cases d with
  | tup ds =>
    simp only [th, Bool.and_eq_true, decide_eq_true_eq] at hd
    by_cases h : ds.all isC = true
    · have ea := ev_asc hS hd.1 (alike_isC h)
      simp [tupAll, h, ea, closeV_bl hS, cntB]
    · rw [Bool.not_eq_true] at h
      simp [tupAll, h, closeV_bl hS, cntB]
  | _ => simp [tupAll, cntB, closeV_bl hS]
theorem ev_names (hS : SOk S) (hd : th d = true) : F_is_names ac al an [d] S = some (.bl (nmsB d), S) := by
  have e := ev_tn hA hS hd
  simp [F_is_names, B_is_names, fnC, sRet, sCons, sIf, sSet, sNil, fAndV, fOrV, fCall, fCons, fVar, fC, fNil, bnd, asB, fNotV, fOp, fUn, fNot, fAnd, fOr, fB, fTr, fChain, fIf, fTup, fLst, fSl, foNone, foSome, e]
  cases d with
  | tup ds =>
    simp only [th, Bool.and_eq_true, decide_eq_true_eq] at hd
    by_cases h : ds.all isN = true
    · have ea := ev_asc hS hd.1 (alike_isN h)
      simp [tupAll, h, ea, closeV_bl hS, nmsB]
    · rw [Bool.not_eq_true] at h
      simp [tupAll, h, closeV_bl hS, nmsB]
  | _ => simp [tupAll, nmsB, closeV_bl hS]
theorem ev_nameslist (hS : SOk S) (hd : th d = true) : F_is_names_list ac al an [d] S = some (.bl (nmlB d), S) := by
  have e := ev_tn hA hS hd
  simp [F_is_names_list, B_is_names_list, fnC, sRet, sCons, sIf, sSet, sNil, fAndV, fOrV, fCall, fCons, fVar, fC, fNil, bnd, asB, fNotV, fOp, fUn, fNot, fAnd, fOr, fB, fTr, fChain, fIf, fTup, fLst, fSl, foNone, foSome, e]
  cases d with
  | tup ds =>
    simp only [th, Bool.and_eq_true, decide_eq_true_eq] at hd
    by_cases h : ds.all isN = true
    · obtain ⟨xs, e1, e2⟩ := strs_of h
      have hx : xs.length ≤ 4000 := by omega
      have e3 : oLenSet (.tup ds) S = some (.int (dedupS xs).length, S) := by
        simp [oLenSet, e1, hx]
      have e4 : bLen [.tup ds] S = some (.int ds.length, S) := by simp [bLen, seqOf]
      have e5 : oEqX (.int (dedupS xs).length) (.int ds.length) S = some (.bl (((dedupS xs).length : Int) == ds.length), S) := rfl
      simp [tupAll, h, e3, e4, e5, closeV_bl hS, nmlB, e1]
      rfl
    · rw [Bool.not_eq_true] at h
      simp [tupAll, h, closeV_bl hS, nmlB]
  | _ => simp [tupAll, nmlB, closeV_bl hS]
end

/-! ### the bag -/
def Bag (o : O) : Prop := ∃ (a b c : Int) (cells : List Int), cells.length ≤ 63 ∧ o = .lst [.int a, .int b, .int c, .lst (cells.map .int)]
theorem ints_blw : ∀ ns : List Int, D.blws 0 (ns.map .int) = true
  | [] => rfl
  | n :: ns => by
    rw [List.map_cons]
    simp only [D.blws, D.blw, Bool.true_and]
    exact ints_blw ns
theorem Bag.blw {o : O} (h : Bag o) : o.blw 0 = true := by
  obtain ⟨a, b, c, cells, _, rfl⟩ := h
  simp [O.blw, D.blws, D.blw, ints_blw]
theorem cut_ints (cells : List Int) (c : Int) : ∃ ys : List Int, cutD (cells.map .int) (some c) none = ys.map .int := by
  refine ⟨(cells.drop (HT.sIx cells.length 0 (some c))).take (HT.sIx cells.length cells.length none - HT.sIx cells.length 0 (some c)), ?_⟩
  unfold cutD
  rw [List.length_map, List.map_take, List.map_drop]
/-- the first of what is left, or 0 -/
theorem cell_ok {cells : List Int} (c : Int) (hl : cells.length ≤ 63) : ∃ z : Int, ∃ ys : List Int, cutD (cells.map .int) (some c) none = ys.map .int ∧ ys.length ≤ 63 ∧ oIx (.lst (ys.map .int ++ [.int 0])) (.int 0) S = some (.int z, S) := by
  obtain ⟨ys, e⟩ := cut_ints cells c
  have hly : ys.length ≤ 63 := by
    have := congrArg List.length e
    rw [List.length_map] at this
    rw [← this]
    unfold cutD
    rw [List.length_take, List.length_drop, List.length_map]
    omega
  cases ys with
  | nil => exact ⟨0, [], e, hly, by simp [oIx, seqOf, atI_zero]⟩
  | cons y r => exact ⟨y, y :: r, e, hly, by simp [oIx, seqOf, atI_zero]⟩
theorem mul_r {i j : Int} (h : j.natAbs ≤ 18446744073709551615) : oMul (.int i) (.int j) S = some (.int (i * j), S) := by
  have e : Nat.ble j.natAbs 18446744073709551615 = true := Nat.ble_eq_true_of_le h
  simp only [oMul, oI, e, Bool.or_true, if_true]
theorem mul_l {i j : Int} (h : i.natAbs ≤ 18446744073709551615) : oMul (.int i) (.int j) S = some (.int (i * j), S) := by
  have e : Nat.ble i.natAbs 18446744073709551615 = true := Nat.ble_eq_true_of_le h
  simp only [oMul, oI, e, Bool.true_or, if_true]
theorem div_ok {i j : Int} (h0 : j ≠ 0) (h1 : j.natAbs < 1073741824) : oDiv (.int i) (.int j) S = some (.int (i.fdiv j), S) := by
  simp only [oDiv, oI, h0, h1, ne_eq, not_false_eq_true, decide_true, Bool.and_self, if_true]
theorem mod_ok {i j : Int} (h0 : j ≠ 0) : oMod (.int i) (.int j) S = some (.int (i.fmod j), S) := by
  simp only [oMod, oI, h0, ne_eq, not_false_eq_true, decide_true, if_true]
theorem add_ok {i j : Int} : oAdd (.int i) (.int j) S = some (.int (i + j), S) := rfl
theorem sub_ok {i j : Int} : oSub (.int i) (.int j) S = some (.int (i - j), S) := rfl
theorem eq_int {i j : Int} : oEqX (.int i) (.int j) S = some (.bl (i == j), S) := rfl
theorem ge_ok {i j : Int} : oGe (.int i) (.int j) S = some (.bl (decide (j ≤ i)), S) := rfl
theorem gt_ok {i j : Int} : oGt (.int i) (.int j) S = some (.bl (decide (j < i)), S) := rfl
theorem pow18 : oPow (.int 10) (.int 18) S = some (.int 1000000000000000000, S) := rfl
theorem int_ok {i : Int} : bInt [.int i] S = some (.int i, S) := rfl
section
variable {x0 x1 x2 x3 v : D} {r : Store}
theorem rb0 : oIx (.loc 0) (.int 0) (.lst [x0, x1, x2, x3] :: r) = some (x0, .lst [x0, x1, x2, x3] :: r) := rfl
theorem rb1 : oIx (.loc 0) (.int 1) (.lst [x0, x1, x2, x3] :: r) = some (x1, .lst [x0, x1, x2, x3] :: r) := rfl
theorem rb2 : oIx (.loc 0) (.int 2) (.lst [x0, x1, x2, x3] :: r) = some (x2, .lst [x0, x1, x2, x3] :: r) := rfl
theorem rb3 : oIx (.loc 0) (.int 3) (.lst [x0, x1, x2, x3] :: r) = some (x3, .lst [x0, x1, x2, x3] :: r) := rfl
theorem rn2 : oIxN (.loc 0) (.int 2) (.lst [x0, x1, x2, x3] :: r) = some (x2, .lst [x0, x1, x2, x3] :: r) := rfl
theorem wb0 : ixSet (.lst [x0, x1, x2, x3] :: r) (.loc 0) (.int 0) v = some (.lst [v, x1, x2, x3] :: r) := rfl
theorem wb1 : ixSet (.lst [x0, x1, x2, x3] :: r) (.loc 0) (.int 1) v = some (.lst [x0, v, x2, x3] :: r) := rfl
theorem wb2 : ixSet (.lst [x0, x1, x2, x3] :: r) (.loc 0) (.int 2) v = some (.lst [x0, x1, v, x3] :: r) := rfl
end
theorem take_ok {o : O} {r : Store} {m : Int} (hB : Bag o) (hS : SOk (o :: r)) (h0 : 0 < m) (h1 : m < 1000000000) : ∃ v o', 0 ≤ v ∧ v < m ∧ Bag o' ∧ F__law_take [.loc 0, .int m] (o :: r) = some (.int v, o' :: r) := by
  obtain ⟨a, b, c, cells, hl, rfl⟩ := hB
  obtain ⟨z, ys, e1, e2, e3⟩ := cell_ok (S := .lst [.int a, .int b, .int c, .lst (cells.map .int)] :: r) c hl
  have sl := sizeLine_le
  have s1 : 1 ≤ sizeLine := by omega
  have m0 : m ≠ 0 := by omega
  have ma : m.natAbs < 1073741824 := by omega
  have el : oAdd (.lst (cutD (cells.map .int) (some c) none)) (.lst [.int 0]) (.lst [.int a, .int b, .int c, .lst (cells.map .int)] :: r) = some (.lst (ys.map .int ++ [.int 0]), .lst [.int a, .int b, .int c, .lst (cells.map .int)] :: r) := by
    rw [e1]
    simp [oAdd]
    omega
  have stage : ∃ x4 x5 a' b' c', (a' = a ∨ a = 0) ∧ sIf (fB (fOp oEqX (fOp oIx (fVar 0) (fC (.int 0))) (fC (.int 0)))) (sCons (sSet 4 (fOp oIx (fOp oAdd (fSl (fOp oIx (fVar 0) (fC (.int 3))) (foSome (fOp oIx (fVar 0) (fC (.int 2)))) (foNone)) (fLst (fCons (fC (.int 0)) (fNil)))) (fC (.int 0)))) (sCons (sAugN (fVar 0) (fC (.int 2)) (oI (fun _ _ => true) fun i j => .int (i + j)) (fC (.int 1))) (sCons (sIf (fB (fOp oGe (fVar 4) (fOp oPow (fC (.int 10)) (fC (.int 18))))) (sSub (fVar 4) (fVar 0) (fC (.int 0))) (sNil)) (sCons (sSet 5 (fOp oAdd (fOp oAdd (fOp oMul (fOp oIx (fVar 0) (fC (.int 1))) (fC (.int 48271))) (fOp oMod (fCall bInt (fCons (fVar 4) (fNil))) (fC (.int 2147483647)))) (fOp oMul (fC (.int 7919)) (fOp oIx (fVar 0) (fC (.int 2)))))) (sSub (fOp oMod (fCall bInt (fCons (fVar 5) (fNil))) (fC (.int 2147483647))) (fVar 0) (fC (.int 1))))))) (sNil)
      [some (.loc 0), some (.int m), none, none, none, none, none] (.lst [.int a, .int b, .int c, .lst (cells.map .int)] :: r) = some (.nx [some (.loc 0), some (.int m), none, none, x4, x5, none], .lst [.int a', .int b', .int c', .lst (cells.map .int)] :: r) := by
    by_cases ha : a = 0
    · subst ha
      by_cases hz : 1000000000000000000 ≤ z
      · refine ⟨some (.int z), some (.int (b * 48271 + z.fmod 2147483647 + 7919 * (c + 1))), z, (b * 48271 + z.fmod 2147483647 + 7919 * (c + 1)).fmod 2147483647, c + 1, .inr rfl, ?_⟩
        simp [fnC, sRet, sCons, sIf, sSet, sNil, fAndV, fOrV, fCall, fCons, fVar, fC, fNil, bnd, asB, fNotV, fOp, fUn, fNot, fAnd, fOr, fB, fTr, fChain, fIf, fTup, fLst, fSl, foNone, foSome, rb0, rb1, rb2, rb3, rn2, wb0, wb1, wb2, eq_int, oSl, lsOf, asI, s1, el, e3, sAugN, oI, pow18, ge_ok, hz, sSub, mul_r, mul_l, mod_ok, add_ok, int_ok]
      · refine ⟨some (.int z), some (.int (b * 48271 + z.fmod 2147483647 + 7919 * (c + 1))), 0, (b * 48271 + z.fmod 2147483647 + 7919 * (c + 1)).fmod 2147483647, c + 1, .inr rfl, ?_⟩
        simp [fnC, sRet, sCons, sIf, sSet, sNil, fAndV, fOrV, fCall, fCons, fVar, fC, fNil, bnd, asB, fNotV, fOp, fUn, fNot, fAnd, fOr, fB, fTr, fChain, fIf, fTup, fLst, fSl, foNone, foSome, rb0, rb1, rb2, rb3, rn2, wb0, wb1, wb2, eq_int, oSl, lsOf, asI, s1, el, e3, sAugN, oI, pow18, ge_ok, hz, sSub, mul_r, mul_l, mod_ok, add_ok, int_ok]
    · refine ⟨none, none, a, b, c, .inl rfl, ?_⟩
      simp [fnC, sRet, sCons, sIf, sSet, sNil, fAndV, fOrV, fCall, fCons, fVar, fC, fNil, bnd, asB, fNotV, fOp, fUn, fNot, fAnd, fOr, fB, fTr, fChain, fIf, fTup, fLst, fSl, foNone, foSome, rb0, eq_int, ha]
  obtain ⟨x4, x5, a', b', c', _, e4⟩ := stage
  have hS' : ∀ (p q s : Int), SOk (.lst [.int p, .int q, .int s, .lst (cells.map .int)] :: r) := fun p q s => hS.head (Bag.blw ⟨p, q, s, cells, hl, rfl⟩)
  by_cases hp : 0 < a'
  · refine ⟨a'.fmod m, .lst [.int (a'.fdiv m), .int b', .int c', .lst (cells.map .int)], Int.fmod_nonneg_of_pos _ h0, Int.fmod_lt_of_pos _ h0, ⟨_, _, _, cells, hl, rfl⟩, ?_⟩
    have cl : closeV (r.length + 1) (.int (a'.fmod m)) (.lst [.int (a'.fdiv m), .int b', .int c', .lst (cells.map .int)] :: r) = some (.int (a'.fmod m), .lst [.int (a'.fdiv m), .int b', .int c', .lst (cells.map .int)] :: r) := closeV_val (hS' (a'.fdiv m) b' c') (by simp only [D.blw])
    show fnC closeV 7 2 B__law_take _ _ = _
    unfold B__law_take
    simp only [fnC, List.length_cons, List.length_nil, List.map_cons, List.map_nil, List.cons_append, List.nil_append, List.replicate, if_true]
    rw [run_cons e4]
    simp [fnC, sRet, sCons, sIf, sSet, sNil, fAndV, fOrV, fCall, fCons, fVar, fC, fNil, bnd, asB, fNotV, fOp, fUn, fNot, fAnd, fOr, fB, fTr, fChain, fIf, fTup, fLst, fSl, foNone, foSome, rb0, rb1, rb2, rb3, wb0, wb1, wb2, gt_ok, hp, mod_ok m0, div_ok m0 ma, int_ok, sSub, cl]
  · have fl : ∀ x : Int, (x.fmod 1000000007).natAbs ≤ 18446744073709551615 := fun x => by
      have h1 := Int.fmod_nonneg_of_pos x (show (0 : Int) < 1000000007 by omega)
      have h2 := Int.fmod_lt_of_pos x (show (0 : Int) < 1000000007 by omega)
      omega
    have cl : ∀ v : Int, closeV (r.length + 1) (.int v) (.lst [.int a', .int b', .int c', .lst (cells.map .int)] :: r) = some (.int v, .lst [.int a', .int b', .int c', .lst (cells.map .int)] :: r) := fun v => closeV_val (hS' a' b' c') (by simp only [D.blw])
    refine ⟨((((((b' + 1) * 39373).fmod 1000000007 * ((b' + 1) * 39373).fmod 1000000007).fmod 998244353 * 30011).fmod 998244353).fdiv 7).fmod m, .lst [.int a', .int b', .int c', .lst (cells.map .int)], Int.fmod_nonneg_of_pos _ h0, Int.fmod_lt_of_pos _ h0, ⟨_, _, _, cells, hl, rfl⟩, ?_⟩
    show fnC closeV 7 2 B__law_take _ _ = _
    unfold B__law_take
    simp only [fnC, List.length_cons, List.length_nil, List.map_cons, List.map_nil, List.cons_append, List.nil_append, List.replicate, if_true]
    rw [run_cons e4]
    simp [fnC, sRet, sCons, sIf, sSet, sNil, fAndV, fOrV, fCall, fCons, fVar, fC, fNil, bnd, asB, fNotV, fOp, fUn, fNot, fAnd, fOr, fB, fTr, fChain, fIf, fTup, fLst, fSl, foNone, foSome, rb0, rb1, rb2, rb3, wb0, wb1, wb2, gt_ok, hp, mod_ok, m0, div_ok, int_ok, sSub, cl, mul_r, mul_l, add_ok, fl]

theorem len_lst {xs : List D} : bLen [.lst xs] S = some (.int xs.length, S) := rfl
theorem some_ok {o : O} {r : Store} {xs : List D} (hB : Bag o) (hS : SOk (o :: r)) (h0 : xs ≠ []) (h1 : xs.length ≤ 1000) (hx : ∀ y ∈ xs, y.blw 0 = true) : ∃ y o', y ∈ xs ∧ Bag o' ∧ F__law_some [.loc 0, .lst xs] (o :: r) = some (y, o' :: r) := by
  have hp : 0 < xs.length := List.length_pos_iff.mpr h0
  obtain ⟨v, o', v0, v1, hB', e⟩ := take_ok (m := (xs.length : Int)) hB hS (by omega) (by omega)
  obtain ⟨i, rfl⟩ : ∃ i : Nat, v = (i : Int) := ⟨v.toNat, by omega⟩
  have hi : i < xs.length := by omega
  have e2 : ∀ S', oIx (.lst xs) (.int (i : Int)) S' = some (xs[i], S') := fun S' => by
    have e9 : atI xs (i : Int) = some xs[i] := atI_nat (List.getElem?_eq_getElem hi)
    simp only [oIx, seqOf, Option.bind_some, e9, Option.map_some]
  have hm : xs[i] ∈ xs := List.getElem_mem hi
  have cl : closeV (r.length + 1) xs[i] (o' :: r) = some (xs[i], o' :: r) := closeV_val (hS.head hB'.blw) (hx _ hm)
  refine ⟨xs[i], o', hm, hB', ?_⟩
  simp [F__law_some, B__law_some, fnC, sRet, sCons, sIf, sSet, sNil, fAndV, fOrV, fCall, fCons, fVar, fC, fNil, bnd, asB, fNotV, fOp, fUn, fNot, fAnd, fOr, fB, fTr, fChain, fIf, fTup, fLst, fSl, foNone, foSome, len_lst, e, e2, cl]
def odds : List D := [.int (0), .int (1), .int (2), .int (9), .int (12), .int (13), .int (20), .int (30), .int (59), .int (60), .int (61), .int (199), .int (200), .int (400), .int (401), .int (999), .int (1000), .int (-1), .int (1000000000000000000000000000000), .bl true, .bl false, .non, .int (-7), .str "", .str "a", .str "z9", .str "A", .str "9a", .str "a_b", .str "abcdefgh", .str "abcdefghi", .str "end", .str "rule", .str "none", .str "put", .str "take", .str "cut", .str "rules", .tup [], .tup [.int (0)], .tup [.int (1), .int (2)], .tup [.int (2), .int (1)], .tup [.int (1), .int (1)], .tup [.int (12)], .tup [.int (13)], .tup [.str "a", .str "b"], .tup [.str "b", .str "a"], .tup [.str "a", .str "a"], .tup [.bl true], .lst [], .lst [.int (1), .int (2)], .dic [] [], .tup [.tup []]]
theorem odds_th : ths odds = true := by decide +kernel
theorem odds_len : odds.length ≤ 100 := by decide
theorem odds_ne : odds ≠ [] := by decide
theorem pow30 : oPow (.int 10) (.int 30) S = some (.int (10 ^ 30), S) := rfl
theorem ev_odds (hS : SOk S) : F__law_odds [] S = some (.lst odds, S) := by
  have sl := sizeLine_le
  have b : ∀ n : Nat, n ≤ 100 → n ≤ sizeLine := fun n h => by omega
  have cl : closeV S.length (.lst odds) S = some (.lst odds, S) := closeV_val hS (by
    have := ths_blw odds odds_th
    simpa only [D.blw] using this)
  unfold odds at cl ⊢
  simp [F__law_odds, B__law_odds, fnC, sRet, sCons, sIf, sSet, sNil, fAndV, fOrV, fCall, fCons, fVar, fC, fNil, bnd, asB, fNotV, fOp, fUn, fNot, fAnd, fOr, fB, fTr, fChain, fIf, fTup, fLst, fSl, foNone, foSome, b, oNeg, pow30, oAdd, fDic0, cl]
def reprOk (p : PyData) : Bool := p.showable && !p.hasDict && decide (p.depth ≤ 60) && decide (p.shown.length ≤ sizeLine) && SeqAt.shaped (.str p.shown) && SeqAt.shaped p && PyData.eqv p p
theorem alike_of {d : D} {p : PyData} (hS : SOk S) (hd : (rdS S d).py = some p) (hk : reprOk p = true) : F__law_alike [d, d] S = some (.bl true, S) := by
  unfold reprOk at hk
  rw [Bool.and_eq_true, Bool.and_eq_true, Bool.and_eq_true] at hk
  obtain ⟨⟨⟨h1, h4⟩, h2⟩, h3⟩ := hk
  have e1 : bRepr [d] S = some (.str p.shown, S) := by
    unfold bRepr
    simp only [hd, Option.bind_some]
    rw [if_pos h1]
  have e2 : oEqX (.str p.shown) (.str p.shown) S = some (.bl true, S) := by
    simp [oEqX, oEqS]
  have e3 : oEqX d d S = some (.bl true, S) := by
    have : oEq d d S = some (.bl true, S) := by
      unfold oEq oEqN
      simp only [hd, h2, h3, Bool.and_self, if_true]
      rfl
    have e0 : oEqS false d d S = none ∨ oEqS false d d S = some (.bl true, S) := by
      cases d <;> simp [oEqS]
    unfold oEqX
    rw [this]
    rcases e0 with e0 | e0 <;> rw [e0] <;> rfl
  simp [F__law_alike, B__law_alike, fnC, sRet, sCons, sIf, sSet, sNil, fAndV, fOrV, fCall, fCons, fVar, fC, fNil, bnd, asB, fNotV, fOp, fUn, fNot, fAnd, fOr, fB, fTr, fChain, fIf, fTup, fLst, fSl, foNone, foSome, e1, e2, e3, closeV_bl hS]
theorem ok6 : ∀ a b c d e f : Bool, reprOk (.list [.bool a, .bool b, .bool c, .bool d, .bool e, .bool f]) = true := by decide +kernel
theorem ok3 : ∀ a b c : Bool, reprOk (.list [.bool a, .bool b, .bool c]) = true := by decide +kernel
theorem alike6 {a b c d e f : Bool} (hS : SOk S) : F__law_alike [.lst [.bl a, .bl b, .bl c, .bl d, .bl e, .bl f], .lst [.bl a, .bl b, .bl c, .bl d, .bl e, .bl f]] S = some (.bl true, S) := alike_of hS rfl (ok6 a b c d e f)
theorem alike3 {a b c : Bool} (hS : SOk S) : F__law_alike [.lst [.bl a, .bl b, .bl c], .lst [.bl a, .bl b, .bl c]] S = some (.bl true, S) := alike_of hS rfl (ok3 a b c)

theorem cutI (l : List Int) (lo hi : Option Int) : cutD (l.map .int) lo hi = ((l.drop (HT.sIx l.length 0 lo)).take (HT.sIx l.length l.length hi - HT.sIx l.length 0 lo)).map .int := by
  unfold cutD
  rw [List.length_map, List.map_take, List.map_drop]
def absI (i : Int) : Int := if i < 0 then -i else i
theorem bag_ok {ns : List Int} (hl : ns.length ≤ 63) : ∃ o, Bag o ∧ F__law_bag [.fro (ns.map .int)] [] = some (.loc 0, [o]) := by
  have sl := sizeLine_le
  have s4 : 4 ≤ sizeLine := by omega
  obtain ⟨ys, ey⟩ : ∃ ys, ys = (ns.drop (HT.sIx ns.length 0 none)).take (HT.sIx ns.length ns.length (some 63) - HT.sIx ns.length 0 none) := ⟨_, rfl⟩
  have ly : ys.length ≤ 63 := by
    rw [ey, List.length_take, List.length_drop]
    omega
  have elc : fLc (fIt gSeq (fSl (fVar 0) foNone (foSome (fC (.int 63))))) (tgN 1) tYesF (fCall bAbs (fCons (fVar 1) fNil)) [1] [some (.fro (ns.map .int)), none] [] = some (.lst ((ys.map absI).map .int), []) := by
    rw [fLc_map (ds := ys.map .int) (fun d => match d with
      | .int i => .int (absI i)
      | _ => .non) SOk.nil ?_ (fun d hd => ?_) (by rw [List.length_map]; omega)]
    · simp [Function.comp_def]
    · have e : oSl (.fro (ns.map .int)) none (some 63) [] = some (.lst (ys.map .int), []) := by
        simp only [oSl, lsOf, Option.map_some]
        rw [cutI, ← ey]
      simp [fIt, fnC, sRet, sCons, sIf, sSet, sNil, fAndV, fOrV, fCall, fCons, fVar, fC, fNil, bnd, asB, fNotV, fOp, fUn, fNot, fAnd, fOr, fB, fTr, fChain, fIf, fTup, fLst, fSl, foNone, foSome, asI, e, gSeq]
    · obtain ⟨i, hi, rfl⟩ := List.mem_map.mp hd
      refine ⟨[some (.fro (ns.map .int)), some (.int i)], fun S' hS' => ⟨rfl, ?_, rfl⟩⟩
      simp [fnC, sRet, sCons, sIf, sSet, sNil, fAndV, fOrV, fCall, fCons, fVar, fC, fNil, bnd, asB, fNotV, fOp, fUn, fNot, fAnd, fOr, fB, fTr, fChain, fIf, fTup, fLst, fSl, foNone, foSome, bAbs, absI]
  have hB : Bag (.lst [.int 0, .int 1234567891, .int 0, .lst ((ys.map absI).map .int)]) := ⟨_, _, _, ys.map absI, by rw [List.length_map]; exact ly, rfl⟩
  have hb := hB.blw
  refine ⟨_, hB, ?_⟩
  generalize ((ys.map absI).map D.int) = zs at elc hb ⊢
  have cl : closeP 0 (.loc 0) [.lst [.int 0, .int 1234567891, .int 0, .lst zs]] = some (.loc 0, [.lst [.int 0, .int 1234567891, .int 0, .lst zs]]) := by
    unfold closeP
    simp [hb]
  simp [F__law_bag, B__law_bag, fnC, sRet, sCons, sIf, sSet, sNil, fAndV, fOrV, fCall, fCons, fVar, fC, fNil, bnd, asB, fNotV, fOp, fUn, fNot, fAnd, fOr, fB, fTr, fChain, fIf, fTup, fLst, fSl, foNone, foSome, fLstM, elc, s4, cl]

theorem Bag.ok {o : O} (h : Bag o) : SOk [o] := by
  unfold SOk
  simp only [List.all_cons, List.all_nil, Bool.and_true]
  exact O.blw_mono (Nat.zero_le _) o h.blw
/-- one sign of a text -/
def one1 (d : D) : Prop := ∃ c, d = .str ⟨#[c]⟩
theorem strs_one : ∀ {ys : List D}, (∀ y ∈ ys, one1 y) → ∃ ss : List Str, asStrs ys = some ss ∧ ss.length = ys.length ∧ ∀ s ∈ ss, s.length = 1
  | [], _ => ⟨[], rfl, rfl, nofun⟩
  | y :: ys, h => by
    obtain ⟨ss, e1, e2, e3⟩ := strs_one (ys := ys) fun z hz => h z (List.mem_cons_of_mem _ hz)
    obtain ⟨c, rfl⟩ := h y List.mem_cons_self
    refine ⟨⟨#[c]⟩ :: ss, by show (asStrs ys).map _ = _; rw [e1]; rfl, by simp [e2], fun s hs => ?_⟩
    rcases List.mem_cons.mp hs with rfl | hs
    · rfl
    · exact e3 s hs
theorem sum_ones : ∀ {ss : List Str}, (∀ s ∈ ss, s.length = 1) → (ss.map (·.length)).sum = ss.length
  | [], _ => rfl
  | s :: ss, h => by
    rw [List.map_cons, List.sum_cons, h s List.mem_cons_self, sum_ones fun z hz => h z (List.mem_cons_of_mem _ hz)]
    simp
    omega
theorem join_th {ys : List D} {S : Store} (h : ∀ y ∈ ys, one1 y) (hl : ys.length ≤ 100) : ∃ z : Str, th (.str z) = true ∧ mJoin (.str "") (.lst ys) S = some (.str z, S) := by
  obtain ⟨ss, e1, e2, e3⟩ := strs_one h
  have e4 := PySem.W.KT.join_ones ss e3
  refine ⟨Txt.join "" ss, ?_, ?_⟩
  · simp only [th, decide_eq_true_eq]
    rw [e4]
    omega
  · have e5 := sum_ones e3
    have e6 : ("" : Str).length = 0 := by decide
    have hh : (ss.map (·.length)).sum + ss.length * ("" : Str).length ≤ 16777216 := by rw [e5, e6]; omega
    simp only [mJoin, lsOf, Option.bind_some, e1]
    rw [if_pos hh]
theorem take_wd {o : O} {r : Store} {m : Int} {Q : D → Store → Prop} (hB : Bag o) (hS : SOk (o :: r)) (h0 : 0 < m) (h1 : m < 1000000000) (k : ∀ v o', 0 ≤ v → v < m → Bag o' → Q (.int v) (o' :: r)) : Wd (F__law_take [.loc 0, .int m] (o :: r)) Q := by
  obtain ⟨v, o', a, b, c, e⟩ := take_ok hB hS h0 h1
  exact wd_of e (k v o' a b c)
theorem some_wd {o : O} {r : Store} {xs : List D} {Q : D → Store → Prop} (hB : Bag o) (hS : SOk (o :: r)) (h0 : xs ≠ []) (h1 : xs.length ≤ 1000) (hx : ∀ y ∈ xs, y.blw 0 = true) (k : ∀ y o', y ∈ xs → Bag o' → Q y (o' :: r)) : Wd (F__law_some [.loc 0, .lst xs] (o :: r)) Q := by
  obtain ⟨y, o', a, b, e⟩ := some_ok hB hS h0 h1 hx
  exact wd_of e (k y o' a b)

end Drw

set_option Elab.async false
set_option linter.all false
set_option maxRecDepth 100000
set_option autoImplicit false
set_option maxHeartbeats 1000000
namespace K02
open PySem L2 Mir
variable {S : Store} {C : Addr}
/-! ### texts as lists of signs -/
def ofL (l : List Nat) : Str := ⟨l.toArray⟩
theorem str_ext {a b : Str} (h : a.cps.toList = b.cps.toList) : a = b := by
  obtain ⟨x⟩ := a
  obtain ⟨y⟩ := b
  have h : x.toList = y.toList := h
  rw [Array.toList_inj.mp h]
theorem ofL_toL (z : Str) : ofL z.cps.toList = z := str_ext (by simp [ofL])
theorem len_toL (z : Str) : z.length = z.cps.toList.length := rfl
theorem cut_ab (z : Str) (i j : Nat) : cutS z (some (i : Int)) (some (j : Int)) = ofL ((z.cps.toList.drop i).take (j - i)) := by
  unfold cutS ofL
  rw [show HT.sIx z.length 0 (some (i : Int)) = min i z.length from HT.sIx_nat _ _ _, show HT.sIx z.length z.length (some (j : Int)) = min j z.length from HT.sIx_nat _ _ _]
  congr 2
  have hl : z.length = z.cps.toList.length := rfl
  rw [hl]
  generalize z.cps.toList = l
  by_cases h : i ≤ l.length
  · rw [Nat.min_eq_left h]
    by_cases h2 : j ≤ l.length
    · rw [Nat.min_eq_left h2]
    · rw [Nat.min_eq_right (show l.length ≤ j by omega)]
      rw [List.take_of_length_le (by simp), List.take_of_length_le (by simp; omega)]
  · rw [Nat.min_eq_right (show l.length ≤ i by omega), List.drop_of_length_le (Nat.le_refl _), List.drop_of_length_le (show l.length ≤ i by omega)]
    simp
theorem cut_b (z : Str) (j : Nat) : cutS z none (some (j : Int)) = ofL (z.cps.toList.take j) := by
  unfold cutS ofL
  rw [HT.sIx_none, show HT.sIx z.length z.length (some (j : Int)) = min j z.length from HT.sIx_nat _ _ _]
  congr 2
  have hl : z.length = z.cps.toList.length := rfl
  rw [hl]
  generalize z.cps.toList = l
  simp
theorem ofL_inj {a b : List Nat} (h : ofL a = ofL b) : a = b := by
  have := congrArg (fun s : Str => s.cps.toList) h
  simpa [ofL] using this
theorem ofL_beq (a b : List Nat) : (ofL a == ofL b) = (a == b) := by
  rw [Bool.eq_iff_iff, beq_iff_eq, beq_iff_eq]
  exact ⟨ofL_inj, fun h => by rw [h]⟩
/-! ### the scan -/
def Sc (C : Addr) (t : Str) (a : Nat) (g : Bool) : O := .ins C ["text", "at", "good"] [.str t, .int (a : Int), .bl g]
theorem sc_blw {t : Str} {a : Nat} {g : Bool} : (Sc C t a g).blw 0 = true := by simp [Sc, O.blw, D.blws, D.blw]
theorem ne_ta : ¬ (("text" : Str) = "at") := by decide
theorem ne_tg : ¬ (("text" : Str) = "good") := by decide
theorem ne_at : ¬ (("at" : Str) = "text") := by decide
theorem ne_ag : ¬ (("at" : Str) = "good") := by decide
theorem ne_gt : ¬ (("good" : Str) = "text") := by decide
theorem ne_ga : ¬ (("good" : Str) = "at") := by decide
section
variable {env : Mir.Env} {n i : Nat} {t : Str} {a : Nat} {g : Bool} {Q : D → Store → Prop} {QS : Rt → Store → Prop} {fv : FE}
theorem ins_sc (h : S[n]? = some (Sc C t a g)) : insAt C S (.loc n) = some (n, (["text", "at", "good"] : List Str), ([.str t, .int (a : Int), .bl g] : List D)) := by
  simp [insAt, h, Sc]
theorem w_text (h : S[n]? = some (Sc C t a g)) (e : env[i]? = some (some (.loc n))) : Wd (fFld C "text" (fVar i) env S) Q ↔ Q (.str t) S := by
  refine wd_eq ?_
  unfold fFld
  simp [fVar, e, bnd, ins_sc h, lookD]
theorem w_at (h : S[n]? = some (Sc C t a g)) (e : env[i]? = some (some (.loc n))) : Wd (fFld C "at" (fVar i) env S) Q ↔ Q (.int (a : Int)) S := by
  refine wd_eq ?_
  unfold fFld
  simp [fVar, e, bnd, ins_sc h, lookD, ne_at]
theorem w_good (h : S[n]? = some (Sc C t a g)) (e : env[i]? = some (some (.loc n))) : Wd (fFld C "good" (fVar i) env S) Q ↔ Q (.bl g) S := by
  refine wd_eq ?_
  unfold fFld
  simp [fVar, e, bnd, ins_sc h, lookD, ne_gt, ne_ga]
theorem set_at (h : S[n]? = some (Sc C t a g)) (b : Nat) : setIns C "at" (.int (b : Int)) (.loc n) S = some (S.set n (Sc C t b g)) := by
  simp [setIns, ins_sc h, putN, putDs, ne_ta, Sc]
theorem set_good (h : S[n]? = some (Sc C t a g)) (b : Bool) : setIns C "good" (.bl b) (.loc n) S = some (S.set n (Sc C t a b)) := by
  simp [setIns, ins_sc h, putN, putDs, ne_tg, ne_ag, Sc]
end
theorem set_ok {n : Nat} {o : O} (hS : SOk S) (ho : o.blw 0 = true) : SOk (S.set n o) := by
  unfold SOk at *
  rw [List.length_set]
  refine List.all_eq_true.mpr fun x hx => ?_
  rcases List.mem_or_eq_of_mem_set hx with h | h
  · exact List.all_eq_true.mp hS x h
  · subst h
    exact O.blw_mono (Nat.zero_le _) _ ho
/-! ### next_sign, take_end -/
theorem sl_ok {z : Str} (h : z.length ≤ 100) (lo hi : Option Int) : oSl (.str z) lo hi S = some (.str (cutS z lo hi), S) := by
  have := Drw.sizeLine_le
  unfold oSl
  simp only
  rw [if_pos (by omega)]
theorem ev_next {n : Nat} {t : Str} {a : Nat} {g : Bool} (hS : SOk S) (h : S[n]? = some (Sc C t a g)) (ht : t.length ≤ 100) : F_Scan_next_sign C [.loc n] S = some (.str (ofL ((t.cps.toList.drop a).take 1)), S) := by
  refine of_wd (w_fn rfl ?_)
  show Wd (B_Scan_next_sign C [some (.loc n)] S) _
  unfold B_Scan_next_sign
  rw [w_ret, w_sl, w_text h rfl, w_oS, w_at h rfl]
  refine ⟨_, rfl, ?_⟩
  rw [w_oS, w_op, w_at h rfl, w_c]
  refine wd_of Drw.add_ok ⟨_, rfl, ?_⟩
  rw [wd_eq (sl_ok ht _ _)]
  refine ⟨_, .inl rfl, ?_⟩
  have e : ((a : Int) + 1) = ((a + 1 : Nat) : Int) := by omega
  rw [e, cut_ab, Nat.add_sub_cancel_left]
  exact wd_of (closeV_val hS (by simp only [D.blw])) ⟨rfl, rfl⟩
end K02

set_option Elab.async false
set_option linter.all false
set_option maxRecDepth 100000
set_option autoImplicit false
set_option maxHeartbeats 1000000
namespace K02
open PySem L2 Mir
variable {S : Store} {C : Addr}
/-! ### rest_run -/
def al (c : Nat) : Bool := decide (c ∈ Drw.alnum)
def runOf (l : List Nat) : List Nat := l.takeWhile al
theorem run_at {l : List Nat} {i : Nat} (h : i < (runOf l).length) : ∃ c, l[i]? = some c ∧ al c = true := by
  have hi : i < l.length := Nat.lt_of_lt_of_le h (List.takeWhile_sublist _).length_le
  refine ⟨l[i], List.getElem?_eq_getElem hi, ?_⟩
  have e : (runOf l)[i]? = some l[i] := by
    have hp : (runOf l) <+: l := List.takeWhile_prefix _
    obtain ⟨r, hr⟩ := hp
    have : l[i]? = (runOf l ++ r)[i]? := by rw [hr]
    rw [List.getElem?_append_left h] at this
    rw [← this]
    exact List.getElem?_eq_getElem hi
  have hm := List.mem_of_getElem? e
  exact List.all_eq_true.mp (List.all_takeWhile (p := al) (l := l)) _ hm
theorem run_stop : ∀ {l : List Nat} {c : Nat}, l[(runOf l).length]? = some c → al c = false
  | [], c, h => by simp at h
  | x :: l, c, h => by
    unfold runOf at h
    rw [List.takeWhile_cons] at h
    by_cases hx : al x = true
    · rw [if_pos hx] at h
      exact run_stop (l := l) (by simpa [runOf] using h)
    · rw [if_neg hx] at h
      simp at h
      subst h
      simpa using hx
theorem run_take (l : List Nat) : l.take (runOf l).length = runOf l := by
  have hp : (runOf l) <+: l := List.takeWhile_prefix _
  obtain ⟨r, hr⟩ := hp
  conv => lhs; arg 2; rw [← hr]
  simp
theorem len_ok {z : Str} (h : z.length ≤ 100) : bLen [.str z] S = some (.int z.length, S) := by
  have := Drw.sizeLine_le
  simp [bLen]
  omega
theorem ix_ok {z : Str} {i : Nat} {c : Nat} (h : z.length ≤ 100) (e : z.cps.toList[i]? = some c) : oIx (.str z) (.int (i : Int)) S = some (.str ⟨#[c]⟩, S) := by
  have := Drw.sizeLine_le
  have e9 : atI z.cps.toList (i : Int) = some c := atI_nat e
  unfold oIx
  simp only
  rw [if_pos (by omega), e9]
  rfl
theorem lt_ok {i j : Int} : oLt (.int i) (.int j) S = some (.bl (decide (i < j)), S) := rfl
theorem add_al : oAdd (.str "abcdefghijklmnopqrstuvwxyz") (.str "0123456789") S = some (.str "abcdefghijklmnopqrstuvwxyz0123456789", S) := by
  unfold oAdd
  simp only [Drw.lets]
  rfl
theorem in_al {c : Nat} : oInN false (.str ⟨#[c]⟩) (.str "abcdefghijklmnopqrstuvwxyz0123456789") S = some (.bl (al c), S) := by
  rw [Drw.in_str]
  rfl
theorem iadd_ok {i j : Int} : oI (fun _ _ => true) (fun i j => .int (i + j)) (.int i) (.int j) S = some (.int (i + j), S) := rfl
theorem ev_rest {n : Nat} {t : Str} {a : Nat} {g : Bool} (hS : SOk S) (h : S[n]? = some (Sc C t a g)) (ht : t.length ≤ 100) : F_Scan_rest_run C [.loc n] S = some (.str (ofL (runOf (t.cps.toList.drop a))), S) := by
  refine of_wd (w_fn rfl ?_)
  show Wd (B_Scan_rest_run C [some (.loc n), none] S) _
  unfold B_Scan_rest_run
  rw [w_seq, w_set, w_at h rfl]
  simp only [List.set_cons_succ, List.set_cons_zero]
  have hlen : t.cps.toList.length ≤ 100 := ht
  have hrun : (runOf (t.cps.toList.drop a)).length ≤ 100 := by
    have h1 : (runOf (t.cps.toList.drop a)).length ≤ (t.cps.toList.drop a).length := (List.takeWhile_sublist _).length_le
    rw [List.length_drop] at h1
    omega
  rw [w_seq]
  refine w_while (runOf (t.cps.toList.drop a)).length (fun i e S' => S' = S ∧ e = [some (.loc n), some (.int ((a + i : Nat) : Int))]) ⟨rfl, by simp⟩ (by omega) (fun i hi e S' hJ => ?_) fun e S' hJ => ?_
  · obtain ⟨rfl, rfl⟩ := hJ
    obtain ⟨c, hc, hal⟩ := run_at hi
    rw [List.getElem?_drop] at hc
    have hlt : a + i < t.cps.toList.length := (List.getElem?_eq_some_iff.mp hc).1
    have d1 : decide (((a + i : Nat) : Int) < (t.length : Int)) = true := decide_eq_true (by rw [len_toL]; omega)
    rw [w_and, w_B, w_op, w_var rfl, w_call, w_consA, w_text h rfl, w_nil, wd_eq (len_ok ht), wd_eq lt_ok]
    refine ⟨_, rfl, ?_⟩
    rw [if_pos d1, w_B, w_op, w_op, w_text h rfl, w_var rfl, wd_eq (ix_ok ht hc), w_op, w_c, w_c, wd_eq add_al, wd_eq in_al]
    refine ⟨_, rfl, hal, ?_⟩
    rw [w_aug (d := .int ((a + i : Nat) : Int)) rfl, w_c, wd_eq iadd_ok]
    refine ⟨_, rfl, rfl, ?_⟩
    simp
    omega
  · obtain ⟨rfl, rfl⟩ := hJ
    have fin : Wd ((sRet (fSl (fFld C "text" (fVar 0)) (foSome (fFld C "at" (fVar 0))) (foSome (fVar 1)))) [some (.loc n), some (.int ((a + (runOf (t.cps.toList.drop a)).length : Nat) : Int))] S') fun r S1 => ∃ d, (r = .rt d ∨ ((∃ e, r = .nx e) ∧ d = .non)) ∧ Wd (closeV S'.length d S1) fun b S'' => b = .str (ofL (runOf (t.cps.toList.drop a))) ∧ S'' = S' := by
      rw [w_ret, w_sl, w_text h rfl, w_oS, w_at h rfl]
      refine ⟨_, rfl, ?_⟩
      rw [w_oS, w_var rfl]
      refine ⟨_, rfl, ?_⟩
      rw [wd_eq (sl_ok ht _ _), cut_ab, Nat.add_sub_cancel_left, run_take]
      exact ⟨_, .inl rfl, wd_of (closeV_val hS (by simp only [D.blw])) ⟨rfl, rfl⟩⟩
    rw [w_and, w_B, w_op, w_var rfl, w_call, w_consA, w_text h rfl, w_nil, wd_eq (len_ok ht), wd_eq lt_ok]
    refine ⟨_, rfl, ?_⟩
    by_cases hlt : a + (runOf (t.cps.toList.drop a)).length < t.cps.toList.length
    · have d1 : decide (((a + (runOf (t.cps.toList.drop a)).length : Nat) : Int) < (t.length : Int)) = true := decide_eq_true (by rw [len_toL]; omega)
      have hc : t.cps.toList[a + (runOf (t.cps.toList.drop a)).length]? = some t.cps.toList[a + (runOf (t.cps.toList.drop a)).length] := List.getElem?_eq_getElem hlt
      have hs := run_stop (l := t.cps.toList.drop a) (by rw [List.getElem?_drop]; exact hc)
      rw [if_pos d1, w_B, w_op, w_op, w_text h rfl, w_var rfl, wd_eq (ix_ok ht hc), w_op, w_c, w_c, wd_eq add_al, wd_eq in_al]
      exact ⟨_, rfl, hs, fin⟩
    · have d1 : ¬ decide (((a + (runOf (t.cps.toList.drop a)).length : Nat) : Int) < (t.length : Int)) = true := by
        rw [decide_eq_true_eq, len_toL]
        omega
      rw [if_neg d1]
      exact ⟨rfl, fin⟩
end K02

set_option Elab.async false
set_option linter.all false
set_option maxRecDepth 100000
set_option autoImplicit false
set_option maxHeartbeats 1000000
namespace K02
open PySem L2 Mir
variable {S : Store} {C : Addr}
/-! ### take_word -/
/-- how many signs two texts share from their beginnings on -/
def cp : List Nat → List Nat → Nat
  | x :: xs, y :: ys => if x = y then cp xs ys + 1 else 0
  | _, _ => 0
def chr1 (c : Nat) : D := .str ⟨#[c]⟩
theorem set_same {n : Nat} {o : O} (h : S[n]? = some o) : S.set n o = S := by
  obtain ⟨hl, e⟩ := List.getElem?_eq_some_iff.mp h
  rw [← e]
  exact List.set_getElem_self hl
theorem get_set {n : Nat} {o o' : O} (h : S[n]? = some o) : (S.set n o')[n]? = some o' := List.getElem?_set_self (List.getElem?_eq_some_iff.mp h).1
theorem take1 {l : List Nat} {c : Nat} : (ofL (l.take 1) == (⟨#[c]⟩ : Str)) = (match l with
    | x :: _ => decide (x = c)
    | [] => false) := by
  have e : (⟨#[c]⟩ : Str) = ofL [c] := rfl
  rw [e, ofL_beq]
  cases l with
  | nil => rfl
  | cons x r =>
    simp
    by_cases h : x = c <;> simp [h]
theorem ne_str {a b : Str} : oNeX (.str a) (.str b) S = some (.bl (!(a == b)), S) := rfl
theorem eq_str {a b : Str} : oEqX (.str a) (.str b) S = some (.bl (a == b), S) := rfl
def wordBody (C : Addr) : FS := sCons (sIf (fOr (fNot (fTr (fFld C "good" (fVar 0)))) (fB (fOp oNeX (fMeth C "next_sign" (F_Scan_next_sign C) (fVar 0) fNil) (fVar 2)))) (sCons (sFldM C "good" (fVar 0) (fC (.bl false))) (sRetN)) (sNil)) (sFldAugM C "at" (oI (fun _ _ => true) fun i j => .int (i + j)) (fVar 0) (fC (.int 1)))
theorem no_m : ("next_sign" : Str) ∉ (["text", "at", "good"] : List Str) := by decide
theorem word_go {n : Nat} {t : Str} (ht : t.length ≤ 100) {x1 : Option D} : ∀ (w : List Nat) (a : Nat) (g : Bool) (S : Store) (x2 : Option D), SOk S → S[n]? = some (Sc C t a g) →
    Wd (forGo (tgN 2) (wordBody C) (w.map chr1) [some (.loc n), x1, x2] S) fun r S' => S' = S.set n (if g then Sc C t (a + cp (t.cps.toList.drop a) w) (decide (cp (t.cps.toList.drop a) w = w.length)) else Sc C t a false) ∧ ((∃ e, r = .nx e) ∨ r = .rt .non)
  | [], a, g, S, x2, hS, h => by
    refine wd_some.mpr ⟨?_, .inl ⟨_, rfl⟩⟩
    cases g with
    | false => exact (set_same h).symm
    | true =>
      have e : cp (t.cps.toList.drop a) [] = 0 := by cases t.cps.toList.drop a <;> rfl
      rw [if_pos rfl, e]
      exact (set_same h).symm
  | c :: w, a, g, S, x2, hS, h => by
    show Wd (bnd (tgN 2 (chr1 c) [some (.loc n), x1, x2] S) fun e1 S1 => bnd (wordBody C e1 S1) _) _
    have et : tgN 2 (chr1 c) [some (.loc n), x1, x2] S = some ([some (.loc n), x1, some (chr1 c)], S) := rfl
    rw [et, bnd_some, wd_bnd]
    unfold wordBody
    rw [w_seq, w_if, w_or, w_not, w_tr, w_good h rfl]
    refine ⟨g, rfl, ?_⟩
    cases g with
    | false =>
      simp only [Bool.not_false, if_true]
      rw [w_seq, w_fldM, w_c, w_var rfl]
      refine ⟨_, set_good h false, ?_⟩
      simp only
      rw [w_retN]
      exact wd_some.mpr ⟨rfl, .inr rfl⟩
    | true =>
      simp only [Bool.not_true, Bool.false_eq_true, if_false]
      rw [w_B, w_op, w_meth (p := .loc n) rfl (ins_sc h) no_m, w_nil, wd_eq (ev_next hS h ht), w_var (x := chr1 c) rfl]
      unfold chr1
      rw [wd_eq ne_str]
      refine ⟨_, rfl, ?_⟩
      rw [take1]
      cases hl : t.cps.toList.drop a with
      | nil =>
        simp only [Bool.not_false, if_true]
        rw [w_seq, w_fldM, w_c, w_var rfl]
        refine ⟨_, set_good h false, ?_⟩
        simp only
        rw [w_retN]
        exact wd_some.mpr ⟨rfl, .inr rfl⟩
      | cons x r =>
        by_cases hx : x = c
        · subst hx
          simp only [decide_true, Bool.not_true, Bool.false_eq_true, if_false]
          rw [w_sN]
          simp only
          rw [w_fldAug (p := .loc n) (fun _ => rfl) rfl (ins_sc h) (d := .int (a : Int)) (by simp [lookD, ne_at]), w_c, wd_eq iadd_ok]
          have e1 : ((a : Int) + 1) = ((a + 1 : Nat) : Int) := by omega
          rw [e1]
          refine ⟨_, set_at h (a + 1), ?_⟩
          simp only
          have hd : t.cps.toList.drop (a + 1) = r := by
            rw [← List.drop_drop, hl]
            rfl
          have ih := word_go ht (x1 := x1) w (a + 1) true (S.set n (Sc C t (a + 1) true)) (some (.str ⟨#[x]⟩)) (set_ok hS sc_blw) (get_set h)
          refine wd_mono ih fun r' S' hq => ⟨?_, hq.2⟩
          rw [hq.1, List.set_set, hd]
          simp only [cp, if_true]
          have e3 : a + 1 + cp r w = a + (cp r w + 1) := by omega
          rw [e3]
          congr 2
          simp
        · have hx2 : decide (x = c) = false := decide_eq_false hx
          simp only [hx2, Bool.not_false, if_true]
          rw [w_seq, w_fldM, w_c, w_var rfl]
          refine ⟨_, set_good h false, ?_⟩
          simp only
          rw [w_retN]
          refine wd_some.mpr ⟨?_, .inr rfl⟩
          simp only [cp, hx, if_false, Nat.add_zero, List.length_cons]
          congr 2
theorem ev_word {n : Nat} {t w : Str} {a : Nat} {g : Bool} (hS : SOk S) (h : S[n]? = some (Sc C t a g)) (ht : t.length ≤ 100) :
    F_Scan_take_word C [.loc n, .str w] S = some (.non, S.set n (if g then Sc C t (a + cp (t.cps.toList.drop a) w.cps.toList) (decide (cp (t.cps.toList.drop a) w.cps.toList = w.length)) else Sc C t a false)) := by
  refine of_wd (w_fn rfl ?_)
  show Wd (B_Scan_take_word C [some (.loc n), some (.str w), none] S) _
  unfold B_Scan_take_word sFor
  have hi : fIt gSeq (fVar 1) [some (.loc n), some (.str w), none] S = some (w.cps.toList.map chr1, S) := rfl
  rw [hi, bnd_some]
  have go := word_go (C := C) ht (x1 := some (.str w)) w.cps.toList a g S none hS h
  refine wd_mono go fun r S' hq => ?_
  obtain ⟨rfl, hr⟩ := hq
  have hok : SOk (S.set n (if g then Sc C t (a + cp (t.cps.toList.drop a) w.cps.toList) (decide (cp (t.cps.toList.drop a) w.cps.toList = w.cps.toList.length)) else Sc C t a false)) := set_ok hS (by split <;> exact sc_blw)
  have hlen : (S.set n (if g then Sc C t (a + cp (t.cps.toList.drop a) w.cps.toList) (decide (cp (t.cps.toList.drop a) w.cps.toList = w.cps.toList.length)) else Sc C t a false)).length = S.length := List.length_set
  rw [len_toL w]
  generalize S.set n (if g then Sc C t (a + cp (t.cps.toList.drop a) w.cps.toList) (decide (cp (t.cps.toList.drop a) w.cps.toList = w.cps.toList.length)) else Sc C t a false) = S2 at hok hlen ⊢
  have hc : closeV S.length .non S2 = some (.non, S2) := by
    have := closeV_val (d := .non) hok (by simp only [D.blw])
    rw [hlen] at this
    exact this
  refine ⟨.non, ?_, wd_of hc ⟨rfl, rfl⟩⟩
  rcases hr with ⟨e, rfl⟩ | rfl
  · exact .inr ⟨⟨e, rfl⟩, rfl⟩
  · exact .inl rfl
end K02

set_option Elab.async false
set_option linter.all false
set_option maxRecDepth 100000
set_option autoImplicit false
set_option maxHeartbeats 1000000
namespace K02
open PySem L2 Mir
variable {S : Store} {C : Addr}
/-! ### shared_with -/
theorem cp_at : ∀ {l w : List Nat} {i : Nat}, i < cp l w → ∃ c r, w[i]? = some c ∧ l.drop i = c :: r
  | x :: xs, y :: ys, 0, h => by
    unfold cp at h
    by_cases e : x = y
    · subst e
      exact ⟨x, xs, rfl, rfl⟩
    · rw [if_neg e] at h
      omega
  | x :: xs, y :: ys, i + 1, h => by
    unfold cp at h
    by_cases e : x = y
    · rw [if_pos e] at h
      obtain ⟨c, r, h1, h2⟩ := cp_at (l := xs) (w := ys) (i := i) (by omega)
      exact ⟨c, r, by simpa using h1, by simpa using h2⟩
    · rw [if_neg e] at h
      omega
  | [], _, i, h => by simp [cp] at h
  | _ :: _, [], i, h => by simp [cp] at h
theorem cp_stop : ∀ {l w : List Nat} {c : Nat}, w[cp l w]? = some c → (match l.drop (cp l w) with
    | x :: _ => decide (x = c)
    | [] => false) = false
  | x :: xs, y :: ys, c, h => by
    unfold cp at h ⊢
    by_cases e : x = y
    · rw [if_pos e] at h ⊢
      simp only [List.drop_succ_cons]
      exact cp_stop (l := xs) (w := ys) (by simpa using h)
    · rw [if_neg e] at h ⊢
      simp at h
      subst h
      simpa using e
  | [], w, c, h => by
    have : cp [] w = 0 := by cases w <;> rfl
    rw [this]
    rfl
  | _ :: _, [], c, h => by simp at h
theorem cp_le : ∀ (l w : List Nat), cp l w ≤ w.length ∧ cp l w ≤ l.length
  | x :: xs, y :: ys => by
    have := cp_le xs ys
    unfold cp
    split <;> simp <;> omega
  | [], w => by cases w <;> simp [cp]
  | _ :: _, [] => by simp [cp]
theorem ev_shared {n : Nat} {t w : Str} {a : Nat} {g : Bool} (hS : SOk S) (h : S[n]? = some (Sc C t a g)) (ht : t.length ≤ 100) (hw : w.length ≤ 100) :
    F_Scan_shared_with C [.loc n, .str w] S = some (.int (cp (t.cps.toList.drop a) w.cps.toList : Nat), S) := by
  refine of_wd (w_fn rfl ?_)
  show Wd (B_Scan_shared_with C [some (.loc n), some (.str w), none] S) _
  unfold B_Scan_shared_with
  rw [w_seq, w_set, w_c]
  simp only [List.set_cons_succ, List.set_cons_zero]
  have hle := cp_le (t.cps.toList.drop a) w.cps.toList
  have hwl : w.cps.toList.length ≤ 100 := hw
  rw [w_seq]
  refine w_while (cp (t.cps.toList.drop a) w.cps.toList) (fun i e S' => S' = S ∧ e = [some (.loc n), some (.str w), some (.int (i : Int))]) ⟨rfl, by simp⟩ (by omega) (fun i hi e S' hJ => ?_) fun e S' hJ => ?_
  · obtain ⟨rfl, rfl⟩ := hJ
    obtain ⟨c, r, hc, hd⟩ := cp_at hi
    have hlt : i < w.cps.toList.length := (List.getElem?_eq_some_iff.mp hc).1
    have d1 : decide ((i : Int) < (w.length : Int)) = true := decide_eq_true (by rw [len_toL]; omega)
    rw [w_and, w_B, w_op, w_var rfl, w_call, w_consA, w_var rfl, w_nil, wd_eq (len_ok hw), wd_eq lt_ok]
    refine ⟨_, rfl, ?_⟩
    rw [if_pos d1, w_B, w_op, w_sl, w_text h rfl, w_oS, w_op, w_at h rfl, w_var rfl, wd_eq Drw.add_ok]
    refine ⟨_, rfl, ?_⟩
    rw [w_oS, w_op, w_op, w_at h rfl, w_var rfl, wd_eq Drw.add_ok, w_c, wd_eq Drw.add_ok]
    refine ⟨_, rfl, ?_⟩
    have e1 : ((a : Int) + (i : Int)) = ((a + i : Nat) : Int) := by omega
    have e2 : (((a + i : Nat) : Int) + 1) = ((a + i + 1 : Nat) : Int) := by omega
    rw [e1, e2, wd_eq (sl_ok ht _ _), cut_ab, Nat.add_sub_cancel_left, w_op, w_var rfl, w_var rfl, wd_eq (ix_ok hw hc), wd_eq eq_str]
    refine ⟨_, rfl, ?_, ?_⟩
    · rw [take1, ← List.drop_drop, hd]
      simp
    · rw [w_aug (d := .int (i : Int)) rfl, w_c, wd_eq iadd_ok]
      refine ⟨_, rfl, rfl, ?_⟩
      simp
  · obtain ⟨rfl, rfl⟩ := hJ
    have fin : Wd (sRet (fVar 2) [some (.loc n), some (.str w), some (.int (cp (t.cps.toList.drop a) w.cps.toList : Nat))] S') fun r S1 => ∃ d, (r = .rt d ∨ ((∃ e, r = .nx e) ∧ d = .non)) ∧ Wd (closeV S'.length d S1) fun b S'' => b = .int (cp (t.cps.toList.drop a) w.cps.toList : Nat) ∧ S'' = S' := by
      rw [w_ret, w_var rfl]
      exact ⟨_, .inl rfl, wd_of (closeV_val hS (by simp only [D.blw])) ⟨rfl, rfl⟩⟩
    rw [w_and, w_B, w_op, w_var rfl, w_call, w_consA, w_var rfl, w_nil, wd_eq (len_ok hw), wd_eq lt_ok]
    refine ⟨_, rfl, ?_⟩
    by_cases hlt : cp (t.cps.toList.drop a) w.cps.toList < w.cps.toList.length
    · have d1 : decide (((cp (t.cps.toList.drop a) w.cps.toList : Nat) : Int) < (w.length : Int)) = true := decide_eq_true (by rw [len_toL]; omega)
      have hc : w.cps.toList[cp (t.cps.toList.drop a) w.cps.toList]? = some w.cps.toList[cp (t.cps.toList.drop a) w.cps.toList] := List.getElem?_eq_getElem hlt
      have hs := cp_stop hc
      rw [if_pos d1, w_B, w_op, w_sl, w_text h rfl, w_oS, w_op, w_at h rfl, w_var rfl, wd_eq Drw.add_ok]
      refine ⟨_, rfl, ?_⟩
      rw [w_oS, w_op, w_op, w_at h rfl, w_var rfl, wd_eq Drw.add_ok, w_c, wd_eq Drw.add_ok]
      refine ⟨_, rfl, ?_⟩
      have e1 : ((a : Int) + ((cp (t.cps.toList.drop a) w.cps.toList : Nat) : Int)) = ((a + cp (t.cps.toList.drop a) w.cps.toList : Nat) : Int) := by omega
      have e2 : (((a + cp (t.cps.toList.drop a) w.cps.toList : Nat) : Int) + 1) = ((a + cp (t.cps.toList.drop a) w.cps.toList + 1 : Nat) : Int) := by omega
      rw [e1, e2, wd_eq (sl_ok ht _ _), cut_ab, Nat.add_sub_cancel_left, w_op, w_var rfl, w_var rfl, wd_eq (ix_ok hw hc), wd_eq eq_str]
      refine ⟨_, rfl, ?_, fin⟩
      rw [take1, ← List.drop_drop]
      exact hs
    · have d1 : ¬ decide (((cp (t.cps.toList.drop a) w.cps.toList : Nat) : Int) < (w.length : Int)) = true := by
        rw [decide_eq_true_eq, len_toL]
        omega
      rw [if_neg d1]
      exact ⟨rfl, fin⟩
/-! ### take_end -/
theorem ev_end {n : Nat} {t : Str} {a : Nat} {g : Bool} (hS : SOk S) (h : S[n]? = some (Sc C t a g)) (ht : t.length ≤ 100) :
    F_Scan_take_end C [.loc n] S = some (.non, S.set n (Sc C t a (g && decide (a = t.cps.toList.length)))) := by
  refine of_wd (w_fn rfl ?_)
  show Wd (B_Scan_take_end C [some (.loc n)] S) _
  unfold B_Scan_take_end
  have hok : SOk (S.set n (Sc C t a (g && decide (a = t.cps.toList.length)))) := set_ok hS sc_blw
  have hc : closeV S.length .non (S.set n (Sc C t a (g && decide (a = t.cps.toList.length)))) = some (.non, S.set n (Sc C t a (g && decide (a = t.cps.toList.length)))) := by
    have := closeV_val (d := .non) hok (by simp only [D.blw])
    rw [List.length_set] at this
    exact this
  rw [w_fldM, w_andV, w_good h rfl]
  refine ⟨g, rfl, ?_⟩
  cases g with
  | false =>
    rw [if_neg Bool.false_ne_true, w_var rfl]
    exact ⟨_, set_good h false, .non, .inr ⟨⟨_, rfl⟩, rfl⟩, wd_of hc ⟨rfl, rfl⟩⟩
  | true =>
    rw [if_pos rfl, w_op, w_at h rfl, w_call, w_consA, w_text h rfl, w_nil, wd_eq (len_ok ht), wd_eq Drw.eq_int, w_var rfl]
    have e : ((a : Int) == (t.length : Int)) = decide (a = t.cps.toList.length) := by
      rw [Bool.eq_iff_iff, beq_iff_eq, decide_eq_true_eq, len_toL]
      omega
    rw [e]
    exact ⟨_, set_good h _, .non, .inr ⟨⟨_, rfl⟩, rfl⟩, wd_of hc ⟨rfl, rfl⟩⟩
end K02

set_option Elab.async false
set_option linter.all false
set_option maxRecDepth 100000
set_option autoImplicit false
set_option maxHeartbeats 1000000
namespace K02
open PySem L2 Mir
variable {S : Store} {C : Addr}
/-! ### take_name -/
def dig (c : Nat) : Bool := decide (c ∈ ("0123456789" : Str).cps.toList)
/-- a name may begin here -/
def begins (l : List Nat) : Bool := match runOf l with
  | c :: _ => !dig c
  | [] => false
def name8 (l : List Nat) : Str := ofL ((runOf l).take 8)
theorem in_res {y : Str} : oInN true (.str y) (.tup (v_RESERVED.map .str)) S = some (.bl (!inV (V.str y) (v_RESERVED.map V.str)), S) := Drw.in_res
theorem no_run : ("rest_run" : Str) ∉ (["text", "at", "good"] : List Str) := by decide
theorem len_ofL (l : List Nat) : (ofL l).length = l.length := by simp [ofL, len_toL]
theorem toL_ofL (l : List Nat) : (ofL l).cps.toList = l := by simp [ofL]
theorem ev_nameS {n : Nat} {t : Str} {a : Nat} {g : Bool} (hS : SOk S) (h : S[n]? = some (Sc C t a g)) (ht : t.length ≤ 100) :
    F_Scan_take_name C [.loc n] S = if g && begins (t.cps.toList.drop a) then some (.str (name8 (t.cps.toList.drop a)), S.set n (Sc C t (a + min (runOf (t.cps.toList.drop a)).length 8) (!inV (V.str (name8 (t.cps.toList.drop a))) (v_RESERVED.map V.str))))
      else some (.str "", S.set n (Sc C t a false)) := by
  have hlen : t.cps.toList.length ≤ 100 := ht
  have hrun : (runOf (t.cps.toList.drop a)).length ≤ 100 := by
    have h1 : (runOf (t.cps.toList.drop a)).length ≤ (t.cps.toList.drop a).length := (List.takeWhile_sublist _).length_le
    rw [List.length_drop] at h1
    omega
  have hr100 : (ofL (runOf (t.cps.toList.drop a))).length ≤ 100 := by rw [len_ofL]; exact hrun
  have er := ev_rest hS h ht
  have hcl : ∀ (d : D) (o : O), d.blw 0 = true → o.blw 0 = true → closeV S.length d (S.set n o) = some (d, S.set n o) := fun d o hd ho => by
    have := closeV_val (d := d) (set_ok (n := n) hS ho) hd
    rw [List.length_set] at this
    exact this
  have bad : Wd (sCons (sFldM C "good" (fVar 0) (fC (.bl false))) (sRet (fC (.str ""))) [some (.loc n), some (.str (ofL (runOf (t.cps.toList.drop a))))] S) fun r S1 => (match r with
      | .nx e => Wd ((sCons (sFldAugM C "at" (oI (fun _ _ => true) fun i j => .int (i + j)) (fVar 0) (fCall bMinX (fCons (fCall bLen (fCons (fVar 1) (fNil))) (fCons (fC (.int 8)) (fNil))))) (sCons (sFldM C "good" (fVar 0) (fOp (oInN true) (fSl (fVar 1) (foNone) (foSome (fC (.int 8)))) (fC (.tup (v_RESERVED.map .str))))) (sRet (fSl (fVar 1) (foNone) (foSome (fC (.int 8))))))) e S1) fun r S1 => ∃ d, (r = .rt d ∨ ((∃ e, r = .nx e) ∧ d = .non)) ∧ Wd (closeV S.length d S1) fun b S'' => b = .str "" ∧ S'' = S.set n (Sc C t a false)
      | r => ∃ d, (r = .rt d ∨ ((∃ e, r = .nx e) ∧ d = .non)) ∧ Wd (closeV S.length d S1) fun b S'' => b = .str "" ∧ S'' = S.set n (Sc C t a false)) := by
    rw [w_seq, w_fldM, w_c, w_var rfl]
    refine ⟨_, set_good h false, ?_⟩
    simp only
    rw [w_ret, w_c]
    exact ⟨_, .inl rfl, wd_of (hcl _ _ (by simp only [D.blw]) sc_blw) ⟨rfl, rfl⟩⟩
  by_cases hg : (g && begins (t.cps.toList.drop a)) = true
  · rw [if_pos hg]
    rw [Bool.and_eq_true] at hg
    obtain ⟨rfl, hb⟩ := hg
    unfold begins at hb
    cases hr : runOf (t.cps.toList.drop a) with
    | nil => rw [hr] at hb; cases hb
    | cons c r =>
      rw [hr] at hb
      have hdc : dig c = false := by simpa using hb
      refine of_wd (w_fn rfl ?_)
      show Wd (B_Scan_take_name C [some (.loc n), none] S) _
      unfold B_Scan_take_name
      rw [w_seq, w_set, w_meth (p := .loc n) rfl (ins_sc h) no_run, w_nil, wd_eq er]
      simp only [List.set_cons_succ, List.set_cons_zero]
      rw [w_seq, w_if, w_or, w_not, w_tr, w_good h rfl]
      refine ⟨true, rfl, ?_⟩
      simp only [Bool.not_true, Bool.false_eq_true, if_false]
      rw [w_or, w_B, w_op, w_var rfl, w_c, wd_eq eq_str]
      refine ⟨_, rfl, ?_⟩
      have hne : (ofL (runOf (t.cps.toList.drop a)) == ("" : Str)) = false := by
        have e : ("" : Str) = ofL [] := rfl
        rw [e, ofL_beq, hr]
        rfl
      rw [hne, if_neg Bool.false_ne_true, w_B, w_op, w_op, w_var rfl, w_c]
      have hix := ix_ok (S := S) (z := ofL (runOf (t.cps.toList.drop a))) (i := 0) (c := c) hr100 (by rw [toL_ofL, hr]; rfl)
      rw [show (D.int 0) = D.int ((0 : Nat) : Int) from rfl, wd_eq hix, w_c, wd_eq Drw.in_str]
      refine ⟨_, rfl, ?_⟩
      have hdc2 : (if false = true then !decide (c ∈ ("0123456789" : Str).cps.toList) else decide (c ∈ ("0123456789" : Str).cps.toList)) = false := hdc
      rw [hdc2, if_neg Bool.false_ne_true, w_sN]
      simp only
      rw [w_seq, w_fldAug (p := .loc n) (fun _ => rfl) rfl (ins_sc h) (d := .int (a : Int)) (by simp [lookD, ne_at]), w_call, w_consA, w_call, w_consA, w_var rfl, w_nil, wd_eq (len_ok hr100), w_consA, w_c, w_nil]
      have hmin : bMinX [.int ((ofL (runOf (t.cps.toList.drop a))).length : Nat), .int 8] S = some (.int (min (runOf (t.cps.toList.drop a)).length 8 : Nat), S) := by
        rw [len_ofL]
        simp only [bMinX, bMin2]
        congr 3
        split <;> omega
      rw [wd_eq hmin, wd_eq iadd_ok]
      have e1 : ((a : Int) + ((min (runOf (t.cps.toList.drop a)).length 8 : Nat) : Int)) = ((a + min (runOf (t.cps.toList.drop a)).length 8 : Nat) : Int) := by omega
      rw [e1]
      refine ⟨_, set_at h _, ?_⟩
      simp only
      have e8 : cutS (ofL (runOf (t.cps.toList.drop a))) none (some 8) = name8 (t.cps.toList.drop a) := by
        rw [show (some 8 : Option Int) = some ((8 : Nat) : Int) from rfl, cut_b, toL_ofL]
        rfl
      rw [w_seq, w_fldM, w_op, w_sl, w_var rfl, w_oN, w_oS, w_c]
      refine ⟨_, rfl, ?_⟩
      rw [wd_eq (sl_ok hr100 _ _), e8, w_c, wd_eq in_res, w_var rfl]
      refine ⟨_, set_good (get_set h) _, ?_⟩
      simp only
      rw [List.set_set, w_ret, w_sl, w_var rfl, w_oN, w_oS, w_c]
      refine ⟨_, rfl, ?_⟩
      rw [wd_eq (sl_ok hr100 _ _), e8]
      refine ⟨_, .inl rfl, wd_of (hcl _ _ (by simp only [D.blw]) sc_blw) ⟨rfl, ?_⟩⟩
      rw [hr]
  · rw [if_neg hg]
    refine of_wd (w_fn rfl ?_)
    show Wd (B_Scan_take_name C [some (.loc n), none] S) _
    unfold B_Scan_take_name
    rw [w_seq, w_set, w_meth (p := .loc n) rfl (ins_sc h) no_run, w_nil, wd_eq er]
    simp only [List.set_cons_succ, List.set_cons_zero]
    rw [w_seq, w_if, w_or, w_not, w_tr, w_good h rfl]
    refine ⟨g, rfl, ?_⟩
    cases g with
    | false =>
      simp only [Bool.not_false, if_true]
      exact bad
    | true =>
      simp only [Bool.not_true, Bool.false_eq_true, if_false]
      rw [w_or, w_B, w_op, w_var rfl, w_c, wd_eq eq_str]
      refine ⟨_, rfl, ?_⟩
      have e : ("" : Str) = ofL [] := rfl
      cases hr : runOf (t.cps.toList.drop a) with
      | nil =>
        rw [hr] at bad
        have hne : (ofL ([] : List Nat) == ("" : Str)) = true := by rw [e, ofL_beq]; rfl
        rw [hne, if_pos rfl]
        simp only [if_true]
        exact bad
      | cons c r =>
        have hdc : dig c = true := by
          have hb : begins (t.cps.toList.drop a) = false := by simpa using hg
          unfold begins at hb
          rw [hr] at hb
          simpa using hb
        rw [hr] at bad hr100
        have hne : (ofL (c :: r) == ("" : Str)) = false := by rw [e, ofL_beq]; rfl
        rw [hne, if_neg Bool.false_ne_true, w_B, w_op, w_op, w_var rfl, w_c]
        have hix := ix_ok (S := S) (z := ofL (c :: r)) (i := 0) (c := c) hr100 (by rw [toL_ofL]; rfl)
        rw [show (D.int 0) = D.int ((0 : Nat) : Int) from rfl, wd_eq hix, w_c, wd_eq Drw.in_str]
        refine ⟨_, rfl, ?_⟩
        have hdc2 : (if false = true then !decide (c ∈ ("0123456789" : Str).cps.toList) else decide (c ∈ ("0123456789" : Str).cps.toList)) = true := hdc
        rw [hdc2, if_pos rfl]
        exact bad
end K02

set_option Elab.async false
set_option linter.all false
set_option maxRecDepth 100000
set_option autoImplicit false
set_option maxHeartbeats 1000000
namespace K02
open PySem L2 Mir
variable {S : Store} {C : Addr}
/-! ### Scan(text) -/
theorem set_new {n : Nat} {ns : List Str} {ds : List D} {f : Str} {y : D} (h : S[n]? = some (.ins C ns ds)) (hl : ns.length < 1000) : setIns C f y (.loc n) S = some (S.set n (.ins C (putN f ns) (putDs f y ns ds))) := by
  simp [setIns, insAt, h, hl]
theorem ev_init {t : Str} (hS : SOk S) : F_Scan___init__ C [.loc S.length, .str t] (S ++ [.ins C [] []]) = some (.non, S ++ [Sc C t 0 true]) := by
  refine of_wd (w_fn rfl ?_)
  show Wd (B_Scan___init__ C [some (.loc S.length), some (.str t)] (S ++ [.ins C [] []])) _
  unfold B_Scan___init__
  have h0 : (S ++ [O.ins C [] []])[S.length]? = some (.ins C [] []) := by simp
  rw [w_seq, w_fldM, w_var rfl, w_var rfl]
  refine ⟨_, set_new h0 (by decide), ?_⟩
  simp only
  rw [w_seq, w_fldM, w_c, w_var rfl]
  refine ⟨_, set_new (get_set h0) (by simp [putN]), ?_⟩
  simp only
  rw [w_fldM, w_c, w_var rfl]
  refine ⟨_, set_new (get_set (get_set h0)) (by simp [putN, ne_ta]), ?_⟩
  refine ⟨.non, .inr ⟨⟨_, rfl⟩, rfl⟩, ?_⟩
  have e : ((((S ++ [O.ins C [] []]).set S.length (.ins C (putN "text" []) (putDs "text" (.str t) [] []))).set S.length (.ins C (putN "at" (putN "text" [])) (putDs "at" (.int 0) (putN "text" []) (putDs "text" (.str t) [] [])))).set S.length
      (.ins C (putN "good" (putN "at" (putN "text" []))) (putDs "good" (.bl true) (putN "at" (putN "text" [])) (putDs "at" (.int 0) (putN "text" []) (putDs "text" (.str t) [] []))))) = S ++ [Sc C t 0 true] := by
    rw [List.set_set, List.set_set]
    simp [putN, putDs, ne_ta, ne_tg, ne_ag, Sc]
  rw [e]
  have hok : SOk (S ++ [Sc C t 0 true]) := hS.snoc sc_blw
  have := closeV_val (d := .non) hok (by simp only [D.blw])
  rw [List.length_append] at this ⊢
  exact wd_of this ⟨rfl, rfl⟩
end K02

set_option Elab.async false
set_option linter.all false
set_option maxRecDepth 100000
set_option autoImplicit false
set_option maxHeartbeats 1000000
namespace K02
open PySem L2 Mir
/-! ### decimal texts of numbers below 1000 -/
theorem num1 {n : Nat} (h : n < 10) : TL.numL n = [48 + n] := TL.numL_lt h
theorem num2 {n : Nat} (h1 : 10 ≤ n) (h2 : n < 100) : TL.numL n = [48 + n / 10, 48 + n % 10] := by
  rw [TL.numL_step h1, num1 (by omega)]
  rfl
theorem num3 {n : Nat} (h1 : 100 ≤ n) (h2 : n < 1000) : TL.numL n = [48 + n / 100, 48 + n / 10 % 10, 48 + n % 10] := by
  rw [TL.numL_step (by omega), num2 (by omega) (by omega)]
  have e : n / 10 / 10 = n / 100 := by omega
  rw [e]
  rfl
/-- w stands at the beginning of n's decimal text -/
def begun (n : Nat) (w : List Nat) : Bool := (TL.numL n).take w.length == w
/-- some number from lo to hi begins so -/
def begB (lo hi : Nat) (w : List Nat) : Bool := (List.range (hi + 1 - lo)).any fun k => begun (lo + k) w
theorem begB_iff {lo hi : Nat} {w : List Nat} : begB lo hi w = true ↔ ∃ n, lo ≤ n ∧ n ≤ hi ∧ begun n w = true := by
  unfold begB
  rw [List.any_eq_true]
  constructor
  · rintro ⟨k, hk, h⟩
    rw [List.mem_range] at hk
    exact ⟨lo + k, by omega, by omega, h⟩
  · rintro ⟨n, h1, h2, h⟩
    refine ⟨n - lo, List.mem_range.mpr (by omega), ?_⟩
    rw [show lo + (n - lo) = n by omega]
    exact h
/-- closed under beginnings -/
theorem begB_pre {lo hi : Nat} {w : List Nat} {k : Nat} (h : begB lo hi w = true) : begB lo hi (w.take k) = true := by
  obtain ⟨n, h1, h2, h3⟩ := begB_iff.mp h
  refine begB_iff.mpr ⟨n, h1, h2, ?_⟩
  unfold begun at *
  rw [beq_iff_eq] at *
  rw [← h3]
  simp [List.take_take]
/-- the program's own reckoning -/
def loopB (lo hi : Nat) : Nat → Nat → Nat → Bool
  | 0, _, _ => false
  | k + 1, low, high => (decide (lo ≤ high) && decide (low ≤ hi)) || loopB lo hi k (10 * low) (10 * high + 9)
def cbB (lo hi : Nat) (w : List Nat) : Bool :=
  if !(w.all dig) || decide ((TL.numL hi).length < w.length) then false
  else if w.headD 0 == 48 then w == [48] && lo == 0
  else loopB lo hi ((TL.numL hi).length - w.length + 1) (PySem.NumText.digitsVal w) (PySem.NumText.digitsVal w)
theorem dig_iff {c : Nat} : dig c = true ↔ 48 ≤ c ∧ c ≤ 57 := by
  unfold dig
  rw [decide_eq_true_eq]
  have e : ("0123456789" : Str).cps.toList = [48, 49, 50, 51, 52, 53, 54, 55, 56, 57] := by decide +kernel
  rw [e]
  simp
  omega
theorem begun_dig {n : Nat} {w : List Nat} (h : begun n w = true) : w.all dig = true := by
  unfold begun at h
  rw [beq_iff_eq] at h
  rw [← h]
  refine List.all_eq_true.mpr fun c hc => ?_
  exact dig_iff.mpr (TL.numL_digits n c (List.mem_of_mem_take hc))
theorem begun_len {n : Nat} {w : List Nat} (h : begun n w = true) : w.length ≤ (TL.numL n).length := by
  unfold begun at h
  rw [beq_iff_eq] at h
  have := congrArg List.length h
  rw [List.length_take] at this
  omega
/-- one sign -/
theorem begun1 {n d : Nat} (hd : d < 10) (hn : n < 1000) : begun n [48 + d] = true ↔ (n = d ∨ (10 * d ≤ n ∧ n ≤ 10 * d + 9 ∧ 10 ≤ n) ∨ (100 * d ≤ n ∧ n ≤ 100 * d + 99 ∧ 100 ≤ n)) := by
  unfold begun
  rw [beq_iff_eq]
  by_cases h1 : n < 10
  · rw [num1 h1]
    simp
    omega
  · by_cases h2 : n < 100
    · rw [num2 (by omega) h2]
      simp
      omega
    · rw [num3 (by omega) hn]
      simp
      omega
theorem begun2 {n d e : Nat} (hd : d < 10) (he : e < 10) (hn : n < 1000) : begun n [48 + d, 48 + e] = true ↔ ((n = 10 * d + e ∧ 10 ≤ n) ∨ (10 * (10 * d + e) ≤ n ∧ n ≤ 10 * (10 * d + e) + 9 ∧ 100 ≤ n)) := by
  unfold begun
  rw [beq_iff_eq]
  by_cases h1 : n < 10
  · rw [num1 h1]
    simp
    omega
  · by_cases h2 : n < 100
    · rw [num2 (by omega) h2]
      simp
      omega
    · rw [num3 (by omega) hn]
      simp
      omega
theorem begun3 {n d e f : Nat} (hd : d < 10) (he : e < 10) (hf : f < 10) (hn : n < 1000) : begun n [48 + d, 48 + e, 48 + f] = true ↔ (n = 100 * d + 10 * e + f ∧ 100 ≤ n) := by
  unfold begun
  rw [beq_iff_eq]
  by_cases h1 : n < 10
  · rw [num1 h1]
    simp
    omega
  · by_cases h2 : n < 100
    · rw [num2 (by omega) h2]
      simp
      omega
    · rw [num3 (by omega) hn]
      simp
      omega
end K02

set_option Elab.async false
set_option linter.all false
set_option maxRecDepth 100000
set_option autoImplicit false
set_option maxHeartbeats 4000000
namespace K02
open PySem L2 Mir
theorem numL_len3 {n : Nat} (h : n < 1000) : (TL.numL n).length ≤ 3 := by
  by_cases h1 : n < 10
  · rw [num1 h1]; simp
  · by_cases h2 : n < 100
    · rw [num2 (by omega) h2]; simp
    · rw [num3 (by omega) h]; simp
theorem numL_len2 {n : Nat} (h : n < 100) : (TL.numL n).length ≤ 2 := by
  by_cases h1 : n < 10
  · rw [num1 h1]; simp
  · rw [num2 (by omega) h]; simp
theorem digE {c : Nat} (h : dig c = true) : ∃ d, d < 10 ∧ c = 48 + d := by
  have := dig_iff.mp h
  exact ⟨c - 48, by omega, by omega⟩
theorem val1 {d : Nat} : PySem.NumText.digitsVal [48 + d] = d := by simp [PySem.NumText.digitsVal]
theorem val2 {d e : Nat} : PySem.NumText.digitsVal [48 + d, 48 + e] = 10 * d + e := by simp [PySem.NumText.digitsVal]; omega
theorem val3 {d e f : Nat} : PySem.NumText.digitsVal [48 + d, 48 + e, 48 + f] = 100 * d + 10 * e + f := by simp [PySem.NumText.digitsVal]; omega
theorem beg1 {lo hi d : Nat} (hd : d < 10) (hhi : hi < 1000) (hlo : lo ≤ 2) : begB lo hi [48 + d] = true ↔ ((lo ≤ d ∧ d ≤ hi) ∨ (1 ≤ d ∧ 10 * d ≤ hi) ∨ (1 ≤ d ∧ 100 * d ≤ hi)) := by
  rw [begB_iff]
  constructor
  · rintro ⟨n, h1, h2, h3⟩
    rw [begun1 hd (by omega)] at h3
    omega
  · rintro (h | h | h)
    · exact ⟨d, h.1, h.2, (begun1 hd (by omega)).mpr (.inl rfl)⟩
    · exact ⟨10 * d, by omega, h.2, (begun1 hd (by omega)).mpr (by omega)⟩
    · exact ⟨100 * d, by omega, h.2, (begun1 hd (by omega)).mpr (by omega)⟩
theorem beg2 {lo hi d e : Nat} (hd : d < 10) (he : e < 10) (hhi : hi < 1000) (hlo : lo ≤ 2) : begB lo hi [48 + d, 48 + e] = true ↔ 1 ≤ d ∧ (10 * d + e ≤ hi ∨ 10 * (10 * d + e) ≤ hi) := by
  rw [begB_iff]
  constructor
  · rintro ⟨n, h1, h2, h3⟩
    rw [begun2 hd he (by omega)] at h3
    omega
  · rintro ⟨h0, h | h⟩
    · exact ⟨10 * d + e, by omega, h, (begun2 hd he (by omega)).mpr (by omega)⟩
    · exact ⟨10 * (10 * d + e), by omega, h, (begun2 hd he (by omega)).mpr (by omega)⟩
theorem beg3 {lo hi d e f : Nat} (hd : d < 10) (he : e < 10) (hf : f < 10) (hhi : hi < 1000) (hlo : lo ≤ 2) : begB lo hi [48 + d, 48 + e, 48 + f] = true ↔ 1 ≤ d ∧ 100 * d + 10 * e + f ≤ hi := by
  rw [begB_iff]
  constructor
  · rintro ⟨n, h1, h2, h3⟩
    rw [begun3 hd he hf (by omega)] at h3
    omega
  · rintro ⟨h0, h⟩
    exact ⟨100 * d + 10 * e + f, by omega, h, (begun3 hd he hf (by omega)).mpr (by omega)⟩
theorem hi_len {hi : Nat} (h : hi = 12 ∨ hi = 60 ∨ hi = 400) : (TL.numL hi).length = if hi = 400 then 3 else 2 := by
  rcases h with rfl | rfl | rfl
  · rw [num2 (by omega) (by omega)]; rfl
  · rw [num2 (by omega) (by omega)]; rfl
  · rw [num3 (by omega) (by omega)]; rfl
theorem cb_eq {lo hi : Nat} {w : List Nat} (hlo : lo ≤ 2) (hhi : hi = 12 ∨ hi = 60 ∨ hi = 400) (hw : w ≠ []) : cbB lo hi w = begB lo hi w := by
  have hh : hi < 1000 := by omega
  have hl := hi_len hhi
  unfold cbB
  by_cases h1 : (!(w.all dig) || decide ((TL.numL hi).length < w.length)) = true
  · rw [if_pos h1]
    symm
    rw [← Bool.not_eq_true]
    intro hb
    obtain ⟨n, b1, b2, b3⟩ := begB_iff.mp hb
    rw [Bool.or_eq_true] at h1
    rcases h1 with h1 | h1
    · rw [begun_dig b3] at h1
      cases h1
    · rw [decide_eq_true_eq, hl] at h1
      have g1 := begun_len b3
      have g3 := numL_len3 (n := n) (by omega)
      by_cases h4 : hi = 400
      · rw [if_pos h4] at h1
        omega
      · rw [if_neg h4] at h1
        have g2 := numL_len2 (n := n) (by omega)
        omega
  · rw [if_neg h1]
    rw [Bool.not_eq_true, Bool.or_eq_false_iff] at h1
    obtain ⟨hd, hlen⟩ := h1
    have hd : w.all dig = true := by simpa using hd
    have hlen : w.length ≤ (TL.numL hi).length := by simpa using hlen
    rw [hl] at hlen ⊢
    match w, hw, hd, hlen with
    | [a], _, hd, hlen =>
      simp only [List.all_cons, List.all_nil, Bool.and_true] at hd
      obtain ⟨d, h2, rfl⟩ := digE hd
      rw [val1, Bool.eq_iff_iff, beg1 h2 hh hlo]
      rcases hhi with rfl | rfl | rfl <;> by_cases h0 : d = 0 <;> simp [loopB, h0] <;> omega
    | [a, b], _, hd, hlen =>
      simp only [List.all_cons, List.all_nil, Bool.and_true, Bool.and_eq_true] at hd
      obtain ⟨d, h2, rfl⟩ := digE hd.1
      obtain ⟨e, h3, rfl⟩ := digE hd.2
      rw [val2, Bool.eq_iff_iff, beg2 h2 h3 hh hlo]
      rcases hhi with rfl | rfl | rfl <;> by_cases h0 : d = 0 <;> simp [loopB, h0] <;> omega
    | [a, b, c], _, hd, hlen =>
      simp only [List.all_cons, List.all_nil, Bool.and_true, Bool.and_eq_true] at hd
      obtain ⟨d, h2, rfl⟩ := digE hd.1
      obtain ⟨e, h3, rfl⟩ := digE hd.2.1
      obtain ⟨f, h4, rfl⟩ := digE hd.2.2
      rw [val3, Bool.eq_iff_iff, beg3 h2 h3 h4 hh hlo]
      rcases hhi with rfl | rfl | rfl
      · simp at hlen
      · simp at hlen
      · by_cases h0 : d = 0 <;> simp [loopB, h0] <;> omega
    | _ :: _ :: _ :: _ :: _, _, hd, hlen =>
      split at hlen <;> simp at hlen <;> omega
end K02

set_option Elab.async false
set_option linter.all false
set_option maxRecDepth 100000
set_option autoImplicit false
set_option maxHeartbeats 2000000
namespace K02
open PySem L2 Mir
variable {S : Store} {C : Addr}
theorem lc_dig {w : List Nat} {x1 x2 x3 x4 x5 x6 : Option D} (hS : SOk S) (hw : w.length ≤ 100) : fLc (fIt gSeq (fVar 0)) (tgN 6) (tYesF) (fOp (oInN false) (fVar 6) (fC (.str "0123456789"))) [6] [some (.str (ofL w)), x1, x2, x3, x4, x5, x6] S = some (.lst ((w.map dig).map .bl), S) := by
  have sl := Drw.sizeLine_le
  rw [fLc_map (ds := w.map chr1) (fun d => match d with
    | .str z => .bl (dig (z.cps.toList.headD 0))
    | _ => .non) hS (by simp [fIt, fVar, bnd, gSeq, toL_ofL, chr1]) (fun d hd => ?_) (by rw [List.length_map]; omega)]
  · simp [chr1, Function.comp_def]
  · obtain ⟨c, hc, rfl⟩ := List.mem_map.mp hd
    refine ⟨[some (.str (ofL w)), x1, x2, x3, x4, x5, some (chr1 c)], fun S' hS' => ⟨rfl, ?_, rfl⟩⟩
    unfold chr1 fOp
    simp only [fVar, fC, List.getElem?_cons_succ, List.getElem?_cons_zero, bnd, Drw.in_str]
    rfl
theorem str_hi {hi : Nat} (h : hi < 1000) : bStr [.int (hi : Int)] S = some (.str (Str.ofString (toString (hi : Int))), S) := by
  have : (hi : Int).natAbs.log2 < 1920 := by
    have h1 : (hi : Int).natAbs = hi := by omega
    rw [h1]
    have : hi.log2 ≤ hi := Nat.log2_le_self hi
    omega
  simp only [bStr, this, if_true]
theorem len_hi {hi : Nat} : (Str.ofString (toString (hi : Int))).length = (TL.numL hi).length := by
  rw [← TL.tl_num]
  rfl
theorem int_w {w : List Nat} (hd : w.all dig = true) (hne : w ≠ []) (hl : w.length ≤ 100) : bIntX [.str (ofL w)] S = some (.int (PySem.NumText.digitsVal w : Nat), S) := by
  have e : PySem.intText? (ofL w) = some ((PySem.NumText.digitsVal w : Nat) : Int) := by
    have := PySem.intText_digits (x := ofL w) (by rw [toL_ofL]; exact fun c hc => dig_iff.mp (List.all_eq_true.mp hd c hc)) (by rw [toL_ofL]; exact hne) (by rw [len_ofL]; omega)
    rw [toL_ofL] at this
    exact this
  have h640 : (ofL w).length ≤ 640 := by rw [len_ofL]; omega
  simp only [bIntX, h640, if_true, e, Option.map_some]
def cbBody : FS := sCons (sIf (fAnd (fB (fOp oGe (fVar 5) (fVar 1))) (fB (fOp oLe (fVar 4) (fVar 2)))) (sRet (fC (.bl true))) (sNil)) (sPar 4 5 (fCons (fOp oMul (fC (.int 10)) (fVar 4)) (fCons (fOp oAdd (fOp oMul (fC (.int 10)) (fVar 5)) (fC (.int 9))) (fNil))))
theorem le_ok {i j : Int} : oLe (.int i) (.int j) S = some (.bl (decide (i ≤ j)), S) := rfl
theorem cb_go {lo hi : Nat} {x0 : D} : ∀ (ls : List D) (low high : Nat) (x3 x6 : Option D), Wd (forGo (tgN 3) cbBody ls [some x0, some (.int (lo : Int)), some (.int (hi : Int)), x3, some (.int (low : Int)), some (.int (high : Int)), x6] S) fun r S' => S' = S ∧ (if loopB lo hi ls.length low high then r = .rt (.bl true) else ∃ e, r = .nx e)
  | [], low, high, x3, x6 => wd_some.mpr ⟨rfl, by simp [loopB]⟩
  | d :: ls, low, high, x3, x6 => by
    show Wd (bnd (tgN 3 d [some x0, some (.int (lo : Int)), some (.int (hi : Int)), x3, some (.int (low : Int)), some (.int (high : Int)), x6] S) fun e1 S1 => bnd (cbBody e1 S1) _) _
    have et : tgN 3 d [some x0, some (.int (lo : Int)), some (.int (hi : Int)), x3, some (.int (low : Int)), some (.int (high : Int)), x6] S = some ([some x0, some (.int (lo : Int)), some (.int (hi : Int)), some d, some (.int (low : Int)), some (.int (high : Int)), x6], S) := rfl
    rw [et, bnd_some, wd_bnd]
    unfold cbBody
    rw [w_seq, w_if, w_and, w_B, w_op, w_var rfl, w_var rfl, wd_eq Drw.ge_ok]
    refine ⟨_, rfl, ?_⟩
    have step : ¬ (lo ≤ high ∧ low ≤ hi) → Wd ((sPar 4 5 (fCons (fOp oMul (fC (.int 10)) (fVar 4)) (fCons (fOp oAdd (fOp oMul (fC (.int 10)) (fVar 5)) (fC (.int 9))) (fNil)))) [some x0, some (.int (lo : Int)), some (.int (hi : Int)), some d, some (.int (low : Int)), some (.int (high : Int)), x6] S) fun r S1 => Wd ((match r with
        | .nx e => forGo (tgN 3) cbBody ls e S1
        | .ct e => forGo (tgN 3) cbBody ls e S1
        | .bk e => some (.nx e, S1)
        | .rt d => some (.rt d, S1)) : Option (Rt × Store)) fun r S' => S' = S ∧ (if loopB lo hi (d :: ls).length low high then r = .rt (.bl true) else ∃ e, r = .nx e) := by
      intro hno
      rw [w_par, w_consA, w_op, w_c, w_var rfl, wd_eq (Drw.mul_l (by decide)), w_consA, w_op, w_op, w_c, w_var rfl, wd_eq (Drw.mul_l (by decide)), w_c, wd_eq Drw.add_ok, w_nil]
      refine ⟨_, _, rfl, ?_⟩
      simp only [List.set_cons_succ, List.set_cons_zero]
      have e1 : (10 * (low : Int)) = ((10 * low : Nat) : Int) := by omega
      have e2 : (10 * (high : Int) + 9) = ((10 * high + 9 : Nat) : Int) := by omega
      rw [e1, e2]
      have ih := cb_go (lo := lo) (hi := hi) (x0 := x0) ls (10 * low) (10 * high + 9) (some d) x6
      have el : loopB lo hi (d :: ls).length low high = loopB lo hi ls.length (10 * low) (10 * high + 9) := by
        rw [List.length_cons]
        unfold loopB
        have : (decide (lo ≤ high) && decide (low ≤ hi)) = false := by
          rw [Bool.and_eq_false_iff, decide_eq_false_iff_not, decide_eq_false_iff_not]
          omega
        rw [this, Bool.false_or]
        cases ls.length <;> rfl
      rw [el]
      exact ih
    by_cases h1 : lo ≤ high
    · have d1 : decide ((lo : Int) ≤ (high : Int)) = true := decide_eq_true (by omega)
      rw [if_pos d1, w_B, w_op, w_var rfl, w_var rfl, wd_eq le_ok]
      refine ⟨_, rfl, ?_⟩
      by_cases h2 : low ≤ hi
      · have d2 : decide ((low : Int) ≤ (hi : Int)) = true := decide_eq_true (by omega)
        rw [if_pos d2, w_ret, w_c]
        refine wd_some.mpr ⟨rfl, ?_⟩
        have el : loopB lo hi (d :: ls).length low high = true := by
          rw [List.length_cons]
          simp [loopB, h1, h2]
        rw [if_pos el]
      · have d2 : ¬ decide ((low : Int) ≤ (hi : Int)) = true := by rw [decide_eq_true_eq]; omega
        rw [if_neg d2, w_sN]
        exact step fun h => h2 h.2
    · have d1 : ¬ decide ((lo : Int) ≤ (high : Int)) = true := by rw [decide_eq_true_eq]; omega
      rw [if_neg d1, if_neg Bool.false_ne_true, w_sN]
      exact step fun h => h1 h.1
end K02

set_option Elab.async false
set_option linter.all false
set_option maxRecDepth 100000
set_option autoImplicit false
set_option maxHeartbeats 2000000
namespace K02
open PySem L2 Mir
variable {S : Store} {C : Addr}
theorem ev_can {lo hi : Nat} {w : List Nat} (hS : SOk S) (hh : hi < 1000) (hne : w ≠ []) (hw : w.length ≤ 100) : F_can_begin [.str (ofL w), .int (lo : Int), .int (hi : Int)] S = some (.bl (cbB lo hi w), S) := by
  have hw2 : (ofL w).length ≤ 100 := by rw [len_ofL]; exact hw
  have hhl : (Str.ofString (toString (hi : Int))).length ≤ 100 := by
    rw [len_hi]
    have := numL_len3 hh
    omega
  have ret : ∀ (b : Bool) (S0 : Store), S0 = S → ∃ d, (Rt.rt (.bl b) = .rt d ∨ ((∃ e, Rt.rt (.bl b) = .nx e) ∧ d = .non)) ∧ Wd (closeV S.length d S0) fun v S' => v = .bl b ∧ S' = S := fun b S0 e => by
    subst e
    exact ⟨_, .inl rfl, wd_of (closeV_bl hS) ⟨rfl, rfl⟩⟩
  obtain ⟨X, hX⟩ : ∃ X, X = cbB lo hi w := ⟨_, rfl⟩
  rw [← hX]
  unfold cbB at hX
  refine of_wd (w_fn rfl ?_)
  show Wd (B_can_begin [some (.str (ofL w)), some (.int (lo : Int)), some (.int (hi : Int)), none, none, none, none] S) _
  unfold B_can_begin
  have ea : (w.map dig).all id = w.all dig := by simp [Function.comp_def]
  rw [w_seq, w_if, w_or, w_not, w_tr, w_call, w_consA, wd_eq (lc_dig hS hw), w_nil, wd_eq (Drw.ev_all _), ea]
  refine ⟨w.all dig, rfl, ?_⟩
  by_cases hd : w.all dig = true
  · rw [hd] at hX ⊢
    simp only [Bool.not_true, Bool.false_eq_true, if_false, Bool.false_or] at hX ⊢
    rw [w_B, w_op, w_call, w_consA, w_var rfl, w_nil, wd_eq (len_ok hw2), w_call, w_consA, w_call, w_consA, w_var rfl, w_nil, wd_eq (str_hi hh), w_nil, wd_eq (len_ok hhl), wd_eq Drw.gt_ok]
    refine ⟨_, rfl, ?_⟩
    rw [len_hi, len_ofL]
    by_cases h1 : (TL.numL hi).length < w.length
    · have d1 : decide (((TL.numL hi).length : Int) < (w.length : Int)) = true := decide_eq_true (by omega)
      rw [if_pos d1, w_ret, w_c]
      simp only [h1, decide_true, if_true] at hX
      rw [hX]
      exact ret false S rfl
    · have d1 : ¬ decide (((TL.numL hi).length : Int) < (w.length : Int)) = true := by rw [decide_eq_true_eq]; omega
      rw [if_neg d1, w_sN]
      simp only [h1, decide_false, Bool.false_eq_true, if_false] at hX
      simp only
      obtain ⟨c, r, rfl⟩ : ∃ c r, w = c :: r := by
        cases w with
        | nil => exact absurd rfl hne
        | cons c r => exact ⟨c, r, rfl⟩
      have hix := ix_ok (S := S) (z := ofL (c :: r)) (i := 0) (c := c) hw2 (by rw [toL_ofL]; rfl)
      rw [w_seq, w_if, w_B, w_op, w_op, w_var rfl, w_c, show (D.int 0) = D.int ((0 : Nat) : Int) from rfl, wd_eq hix, w_c, wd_eq eq_str]
      refine ⟨_, rfl, ?_⟩
      have z0 : ("0" : Str) = ofL [48] := by decide +kernel
      have z1 : ((⟨#[c]⟩ : Str) == ("0" : Str)) = (c == 48) := by
        rw [z0, show (⟨#[c]⟩ : Str) = ofL [c] from rfl, ofL_beq]
        simp
      rw [z1]
      simp only [List.headD_cons] at hX
      by_cases h48 : (c == 48) = true
      · simp only [h48, if_true] at hX ⊢
        rw [w_ret, w_andV, w_op, w_var rfl, w_c, wd_eq eq_str, z0, ofL_beq]
        refine ⟨_, rfl, ?_⟩
        by_cases h2 : ((c :: r) == [48]) = true
        · rw [if_pos h2, w_op, w_var rfl, w_c, wd_eq Drw.eq_int]
          rw [h2, Bool.true_and] at hX
          have e0 : ((lo : Int) == ((0 : Nat) : Int)) = (lo == 0) := by
            rw [Bool.eq_iff_iff, beq_iff_eq, beq_iff_eq]
            omega
          have e0' : ((lo : Int) == 0) = (lo == 0) := e0
          rw [hX]
          first
            | rw [e0]
            | rw [e0']
          exact ret _ S rfl
        · rw [if_neg h2]
          rw [Bool.not_eq_true] at h2
          rw [h2, Bool.false_and] at hX
          rw [hX]
          exact ret _ S rfl
      · rw [Bool.not_eq_true] at h48
        simp only [h48, Bool.false_eq_true, if_false] at hX ⊢
        rw [w_sN]
        simp only
        rw [w_seq, w_par, w_consA, w_call, w_consA, w_var rfl, w_nil, wd_eq (int_w hd hne hw), w_consA, w_call, w_consA, w_var rfl, w_nil, wd_eq (int_w hd hne hw), w_nil]
        refine ⟨_, _, rfl, ?_⟩
        simp only [List.set_cons_succ, List.set_cons_zero]
        rw [w_seq]
        unfold sFor
        rw [wd_bnd, w_rng1, w_op, w_op, w_call, w_consA, w_call, w_consA, w_var rfl, w_nil, wd_eq (str_hi hh), w_nil, wd_eq (len_ok hhl), w_call, w_consA, w_var rfl, w_nil, wd_eq (len_ok hw2), wd_eq Drw.sub_ok, w_c, wd_eq Drw.add_ok, len_hi, len_ofL]
        have g3 := numL_len3 hh
        refine ⟨_, rfl, okR_of (by omega) (by omega), ?_⟩
        have lr : (rng 0 (((TL.numL hi).length : Int) - ((c :: r).length : Int) + 1)).length = (TL.numL hi).length - (c :: r).length + 1 := by
          simp only [rng, List.length_map, List.length_range]
          omega
        have go := cb_go (S := S) (lo := lo) (hi := hi) (x0 := .str (ofL (c :: r))) (rng 0 (((TL.numL hi).length : Int) - ((c :: r).length : Int) + 1)) (PySem.NumText.digitsVal (c :: r)) (PySem.NumText.digitsVal (c :: r)) none none
        rw [lr] at go
        refine wd_mono go fun q S' hq => ?_
        obtain ⟨rfl, hq⟩ := hq
        by_cases hb : loopB lo hi ((TL.numL hi).length - (c :: r).length + 1) (PySem.NumText.digitsVal (c :: r)) (PySem.NumText.digitsVal (c :: r)) = true
        · rw [if_pos hb] at hq
          subst hq
          rw [hb] at hX
          rw [hX]
          exact ret true S' rfl
        · rw [if_neg hb] at hq
          obtain ⟨e, rfl⟩ := hq
          rw [Bool.not_eq_true] at hb
          rw [hb] at hX
          rw [hX]
          simp only
          rw [w_ret, w_c]
          exact ret false S' rfl
  · rw [Bool.not_eq_true] at hd
    rw [hd] at hX ⊢
    simp only [Bool.not_false, if_true, Bool.true_or] at hX ⊢
    rw [hX, w_ret, w_c]
    exact ret false S rfl
end K02

set_option Elab.async false
set_option linter.all false
set_option maxRecDepth 100000
set_option autoImplicit false
set_option maxHeartbeats 2000000
namespace K02
open PySem L2 Mir
variable {S : Store} {C : Addr}
/-! ### take_number: how far the run can begin a number -/
/-- the greatest beginning of l that begins a number -/
def far (lo hi : Nat) (l : List Nat) : Nat := if begB lo hi (l.take 3) && decide (3 ≤ l.length) then 3 else if begB lo hi (l.take 2) && decide (2 ≤ l.length) then 2 else if begB lo hi (l.take 1) && decide (1 ≤ l.length) then 1 else 0
theorem far_le {lo hi : Nat} {l : List Nat} : far lo hi l ≤ l.length ∧ far lo hi l ≤ 3 := by
  unfold far
  split
  · rename_i h
    simp at h
    omega
  · split
    · rename_i h
      simp at h
      omega
    · split
      · rename_i h
        simp at h
        omega
      · omega
theorem far_yes {lo hi k : Nat} {l : List Nat} (h : k ≤ far lo hi l) (h0 : 0 < k) : begB lo hi (l.take k) = true := by
  have pre : ∀ m, begB lo hi (l.take m) = true → k ≤ m → begB lo hi (l.take k) = true := fun m hm hk => by
    have := begB_pre (k := k) hm
    rw [List.take_take, Nat.min_eq_left hk] at this
    exact this
  unfold far at h
  split at h
  · rename_i h3
    rw [Bool.and_eq_true] at h3
    exact pre 3 h3.1 h
  · split at h
    · rename_i h3
      rw [Bool.and_eq_true] at h3
      exact pre 2 h3.1 h
    · split at h
      · rename_i h3
        rw [Bool.and_eq_true] at h3
        exact pre 1 h3.1 h
      · omega
theorem far_no {lo hi : Nat} {l : List Nat} (hh : hi < 1000) (hl : far lo hi l < l.length) : begB lo hi (l.take (far lo hi l + 1)) = false := by
  rw [← Bool.not_eq_true]
  intro hb
  have h4 : far lo hi l + 1 ≤ 3 := by
    obtain ⟨n, b1, b2, b3⟩ := begB_iff.mp hb
    have g1 := begun_len b3
    have g2 := numL_len3 (n := n) (by omega)
    rw [List.length_take] at g1
    omega
  have key : ∀ m, far lo hi l + 1 = m → begB lo hi (l.take m) = true ∧ m ≤ l.length := fun m hm => by
    subst hm
    exact ⟨hb, hl⟩
  generalize hf : far lo hi l = f at *
  unfold far at hf
  have c : f = 0 ∨ f = 1 ∨ f = 2 := by omega
  rcases c with rfl | rfl | rfl
  · obtain ⟨k1, k2⟩ := key 1 rfl
    rw [k1, decide_eq_true k2] at hf
    simp only [Bool.and_self, if_true] at hf
    split at hf
    · omega
    · split at hf <;> omega
  · obtain ⟨k1, k2⟩ := key 2 rfl
    rw [k1, decide_eq_true k2] at hf
    simp only [Bool.and_self, if_true] at hf
    split at hf <;> omega
  · obtain ⟨k1, k2⟩ := key 3 rfl
    rw [k1, decide_eq_true k2] at hf
    simp only [Bool.and_self, if_true] at hf
    omega
end K02

set_option Elab.async false
set_option linter.all false
set_option maxRecDepth 100000
set_option autoImplicit false
set_option maxHeartbeats 2000000
namespace K02
open PySem L2 Mir
variable {S : Store} {C : Addr}
/-! ### take_one_of -/
def strsD (ws : List Str) : List D := ws.map .str
theorem no_sh : ("shared_with" : Str) ∉ (["text", "at", "good"] : List Str) := by decide
theorem no_tw : ("take_word" : Str) ∉ (["text", "at", "good"] : List Str) := by decide
theorem asInts_map0 : ∀ ns : List Int, asInts (ns.map .int) = some ns
  | [] => rfl
  | n :: ns => by
    show (asInts (ns.map .int)).map _ = _
    rw [asInts_map0 ns]
    rfl
theorem lc_shared {n : Nat} {t : Str} {a : Nat} {g : Bool} {ws : List Str} {x2 x3 x4 : Option D} (hS : SOk S) (h : S[n]? = some (Sc C t a g)) (ht : t.length ≤ 100) (hw : ∀ w ∈ ws, w.length ≤ 100) (hl : ws.length ≤ 100) :
    fLc (fIt gSeq (fVar 1)) (tgN 4) (tYesF) (fMeth C "shared_with" (F_Scan_shared_with C) (fVar 0) (fCons (fVar 4) (fNil))) [4] [some (.loc n), some (.lst (strsD ws)), x2, x3, x4] S =
      some (.lst ((ws.map fun w => ((cp (t.cps.toList.drop a) w.cps.toList : Nat) : Int)).map .int), S) := by
  have sl := Drw.sizeLine_le
  have ft : ∀ l : List D, l.filter (fun _ => true) = l := fun l => List.filter_eq_self.mpr fun _ _ => rfl
  rw [fLc_ext (ds := strsD ws) (fun _ => true) (fun d => match d with
    | .str z => .int (cp (t.cps.toList.drop a) z.cps.toList : Nat)
    | _ => .non) hS (by simp [fIt, fVar, bnd, gSeq]) (fun d hd => ?_) (by simp [strsD]; omega)]
  · rw [ft]
    simp [strsD, Function.comp_def]
  · obtain ⟨w, hw', rfl⟩ := List.mem_map.mp hd
    refine ⟨[some (.loc n), some (.lst (strsD ws)), x2, x3, some (.str w)], fun acc hok => ⟨rfl, rfl, fun _ => ⟨?_, rfl⟩⟩⟩
    have hlt : n < S.length := (List.getElem?_eq_some_iff.mp h).1
    have h2 : (S ++ [O.lst acc])[n]? = some (Sc C t a g) := by rw [List.getElem?_append_left hlt]; exact h
    refine of_wd ?_
    rw [w_meth (p := .loc n) rfl (ins_sc h2) no_sh, w_consA, w_var (x := .str w) rfl, w_nil, wd_eq (ev_shared hok h2 ht (hw w hw'))]
    exact ⟨rfl, rfl⟩
end K02

set_option Elab.async false
set_option linter.all false
set_option maxRecDepth 100000
set_option autoImplicit false
set_option maxHeartbeats 2000000
namespace K02
open PySem L2 Mir
variable {S : Store} {C : Addr}
def shares (l : List Nat) (ws : List Str) : List Int := ws.map fun w => ((cp l w.cps.toList : Nat) : Int)
def bestOf (l : List Nat) (ws : List Str) : Nat := (shares l ws).idxOf (maxL (shares l ws))
theorem best_lt {l : List Nat} {ws : List Str} (h : ws ≠ []) : bestOf l ws < ws.length := by
  have hne : shares l ws ≠ [] := by
    cases ws with
    | nil => exact absurd rfl h
    | cons w r => simp [shares]
  have := List.idxOf_lt_length_of_mem (maxL_ok _ hne).1
  unfold bestOf
  simpa [shares] using this
theorem max_ok {l : List Nat} {ws : List Str} (h : ws ≠ []) : bMaxX [.lst ((shares l ws).map .int)] S = some (.int (maxL (shares l ws)), S) := by
  have hne : shares l ws ≠ [] := by
    cases ws with
    | nil => exact absurd rfl h
    | cons w r => simp [shares]
  simp only [bMaxX, lsOf, Option.bind_some, asInts_map0]
  rw [if_neg hne]
theorem index_ok {l : List Nat} {ws : List Str} (h : ws ≠ []) : mIndex (.lst ((shares l ws).map .int)) [.int (maxL (shares l ws))] S = some (.int (bestOf l ws : Nat), S) := by
  have hne : shares l ws ≠ [] := by
    cases ws with
    | nil => exact absurd rfl h
    | cons w r => simp [shares]
  simp only [mIndex, lsOf, Option.bind_some, asInts_map0]
  rw [if_pos (maxL_ok _ hne).1]
  rfl
end K02

set_option Elab.async false
set_option linter.all false
set_option maxRecDepth 100000
set_option autoImplicit false
set_option maxHeartbeats 2000000
namespace K02
open PySem L2 Mir
variable {S : Store} {C : Addr}
theorem ev_one {n : Nat} {t : Str} {a : Nat} {g : Bool} {ws : List Str} {wb : Str} (hS : SOk S) (h : S[n]? = some (Sc C t a g)) (ht : t.length ≤ 100) (hw : ∀ w ∈ ws, w.length ≤ 100) (hl : ws.length ≤ 100) (hne : ws ≠ []) (hb : ws[bestOf (t.cps.toList.drop a) ws]? = some wb) :
    F_Scan_take_one_of C [.loc n, .lst (strsD ws)] S = some (.str wb, S.set n (if g then Sc C t (a + cp (t.cps.toList.drop a) wb.cps.toList) (decide (cp (t.cps.toList.drop a) wb.cps.toList = wb.length)) else Sc C t a false)) := by
  refine of_wd (w_fn rfl ?_)
  show Wd (B_Scan_take_one_of C [some (.loc n), some (.lst (strsD ws)), none, none, none] S) _
  unfold B_Scan_take_one_of
  have e9 : ∀ S', oIx (.lst (strsD ws)) (.int (bestOf (t.cps.toList.drop a) ws : Nat)) S' = some (.str wb, S') := fun S' => by
    have e9 : atI (strsD ws) ((bestOf (t.cps.toList.drop a) ws : Nat) : Int) = some (.str wb) := atI_nat (by rw [strsD, List.getElem?_map, hb]; rfl)
    simp only [oIx, seqOf, Option.bind_some, e9, Option.map_some]
  rw [w_seq, w_set, wd_eq (lc_shared hS h ht hw hl)]
  simp only [List.set_cons_succ, List.set_cons_zero]
  have hmt : Wd (fMt "list" mIndex (fVar 2) (fCons (fCall bMaxX (fCons (fVar 2) (fNil))) (fNil)) [some (.loc n), some (.lst (strsD ws)), some (.lst ((shares (t.cps.toList.drop a) ws).map .int)), none, none] S) fun d S' => d = .int (bestOf (t.cps.toList.drop a) ws : Nat) ∧ S' = S := by
    unfold fMt
    rw [wd_bnd, w_var rfl, if_pos (by rfl), wd_bnd, w_consA, w_call, w_consA, w_var rfl, w_nil, wd_eq (max_ok hne), w_nil, wd_eq (index_ok hne)]
    exact ⟨rfl, rfl⟩
  rw [w_seq, w_set]
  refine wd_mono hmt fun d S' hq => ?_
  obtain ⟨rfl, rfl⟩ := hq
  simp only [List.set_cons_succ, List.set_cons_zero]
  rw [w_seq, w_drop, w_meth (p := .loc n) rfl (ins_sc h) no_tw, w_consA, w_op, w_var rfl, w_var rfl, wd_eq (e9 _), w_nil, wd_eq (ev_word hS h ht)]
  simp only
  rw [w_ret, w_op, w_var rfl, w_var rfl, wd_eq (e9 _)]
  refine ⟨_, .inl rfl, ?_⟩
  have hok : SOk (S'.set n (if g then Sc C t (a + cp (t.cps.toList.drop a) wb.cps.toList) (decide (cp (t.cps.toList.drop a) wb.cps.toList = wb.length)) else Sc C t a false)) := set_ok hS (by split <;> exact sc_blw)
  have := closeV_val (d := .str wb) hok (by simp only [D.blw])
  rw [List.length_set] at this
  exact wd_of this ⟨rfl, rfl⟩
end K02

set_option Elab.async false
set_option linter.all false
set_option maxRecDepth 100000
set_option autoImplicit false
set_option maxHeartbeats 2000000
namespace K02
open PySem L2 Mir
variable {S : Store} {C : Addr}
theorem numCond {n lo hi i : Nat} {run : List Nat} (hS : SOk S) (hlo : lo ≤ 2) (hhi : hi = 12 ∨ hi = 60 ∨ hi = 400) (hr : run.length ≤ 100) :
    (fAnd (fB (fOp oLt (fVar 4) (fCall bLen (fCons (fVar 3) (fNil))))) (fTr (fCall F_can_begin (fCons (fSl (fVar 3) (foNone) (foSome (fOp oAdd (fVar 4) (fC (.int 1))))) (fCons (fVar 1) (fCons (fVar 2) (fNil)))))))
      [some (.loc n), some (.int (lo : Int)), some (.int (hi : Int)), some (.str (ofL run)), some (.int (i : Int))] S = some (decide (i < run.length) && begB lo hi (run.take (i + 1)), S) := by
  have hr2 : (ofL run).length ≤ 100 := by rw [len_ofL]; exact hr
  refine of_wd ?_
  rw [w_and, w_B, w_op, w_var rfl, w_call, w_consA, w_var rfl, w_nil, wd_eq (len_ok hr2), wd_eq lt_ok]
  refine ⟨_, rfl, ?_⟩
  rw [len_ofL]
  by_cases h : i < run.length
  · have d1 : decide ((i : Int) < (run.length : Int)) = true := decide_eq_true (by omega)
    have e1 : ((i : Int) + 1) = ((i + 1 : Nat) : Int) := by omega
    rw [if_pos d1, w_tr, w_call, w_consA, w_sl, w_var rfl, w_oN, w_oS, w_op, w_var rfl, w_c, wd_eq Drw.add_ok]
    refine ⟨_, rfl, ?_⟩
    have hne : run.take (i + 1) ≠ [] := by
      intro e
      have := congrArg List.length e
      rw [List.length_take, List.length_nil] at this
      omega
    rw [e1, wd_eq (sl_ok hr2 _ _), cut_b, toL_ofL, w_consA, w_var rfl, w_consA, w_var rfl, w_nil, wd_eq (ev_can hS (by omega) hne (by rw [List.length_take]; omega))]
    rw [cb_eq hlo hhi hne]
    exact ⟨_, rfl, by simp [h], rfl⟩
  · have d1 : ¬ decide ((i : Int) < (run.length : Int)) = true := by rw [decide_eq_true_eq]; omega
    rw [if_neg d1]
    exact ⟨by simp [h], rfl⟩
end K02

set_option Elab.async false
set_option linter.all false
set_option maxRecDepth 100000
set_option autoImplicit false
set_option maxHeartbeats 2000000
namespace K02
open PySem L2 Mir
variable {S : Store} {C : Addr}
theorem numWhile {n lo hi : Nat} {run : List Nat} {QS : Rt → Store → Prop} (hS : SOk S) (hlo : lo ≤ 2) (hhi : hi = 12 ∨ hi = 60 ∨ hi = 400) (hr : run.length ≤ 100)
    (q : QS (.nx [some (.loc n), some (.int (lo : Int)), some (.int (hi : Int)), some (.str (ofL run)), some (.int (far lo hi run : Nat))]) S) :
    Wd (sWhile 200 (fAnd (fB (fOp oLt (fVar 4) (fCall bLen (fCons (fVar 3) (fNil))))) (fTr (fCall F_can_begin (fCons (fSl (fVar 3) (foNone) (foSome (fOp oAdd (fVar 4) (fC (.int 1))))) (fCons (fVar 1) (fCons (fVar 2) (fNil))))))) (sAug 4 (oI (fun _ _ => true) fun i j => .int (i + j)) (fC (.int 1)))
      [some (.loc n), some (.int (lo : Int)), some (.int (hi : Int)), some (.str (ofL run)), some (.int 0)] S) QS := by
  have fl := far_le (lo := lo) (hi := hi) (l := run)
  refine w_while (far lo hi run) (fun i e S' => S' = S ∧ e = [some (.loc n), some (.int (lo : Int)), some (.int (hi : Int)), some (.str (ofL run)), some (.int (i : Int))]) ⟨rfl, rfl⟩ (by omega) (fun i hi' e S' hJ => ?_) fun e S' hJ => ?_
  · obtain ⟨rfl, rfl⟩ := hJ
    rw [wd_eq (numCond hS hlo hhi hr)]
    refine ⟨?_, ?_⟩
    · rw [far_yes (by omega) (by omega), Bool.and_true, decide_eq_true_eq]
      omega
    · rw [w_aug (d := .int (i : Int)) rfl, w_c, wd_eq iadd_ok]
      exact ⟨_, rfl, rfl, by simp⟩
  · obtain ⟨rfl, rfl⟩ := hJ
    rw [wd_eq (numCond hS hlo hhi hr)]
    refine ⟨?_, q⟩
    by_cases h : far lo hi run < run.length
    · rw [far_no (by omega) h, Bool.and_false]
    · simp [h]
end K02

set_option Elab.async false
set_option linter.all false
set_option maxRecDepth 100000
set_option autoImplicit false
set_option maxHeartbeats 2000000
namespace K02
open PySem L2 Mir
variable {S : Store} {C : Addr}
/-! ### take_number -/
def valOf (lo hi : Nat) (l : List Nat) : Nat := PySem.NumText.digitsVal (l.take (far lo hi l))
def fitsN (lo hi : Nat) (l : List Nat) : Bool := decide (0 < far lo hi l) && (decide (lo ≤ valOf lo hi l) && decide (valOf lo hi l ≤ hi))
theorem far_dig {lo hi : Nat} {l : List Nat} (h : 0 < far lo hi l) : (l.take (far lo hi l)).all dig = true ∧ l.take (far lo hi l) ≠ [] := by
  have h1 := far_yes (lo := lo) (hi := hi) (l := l) (Nat.le_refl _) h
  obtain ⟨n, b1, b2, b3⟩ := begB_iff.mp h1
  refine ⟨begun_dig b3, fun e => ?_⟩
  have := congrArg List.length e
  have fl := far_le (lo := lo) (hi := hi) (l := l)
  rw [List.length_take, List.length_nil] at this
  omega
theorem ev_number {n lo hi a : Nat} {t : Str} {g : Bool} (hS : SOk S) (h : S[n]? = some (Sc C t a g)) (ht : t.length ≤ 100) (hlo : lo ≤ 2) (hhi : hi = 12 ∨ hi = 60 ∨ hi = 400) :
    F_Scan_take_number C [.loc n, .int (lo : Int), .int (hi : Int)] S = some (.int ((if g && fitsN lo hi (runOf (t.cps.toList.drop a)) then valOf lo hi (runOf (t.cps.toList.drop a)) else 0 : Nat) : Int),
      S.set n (Sc C t (a + if g then far lo hi (runOf (t.cps.toList.drop a)) else 0) (g && fitsN lo hi (runOf (t.cps.toList.drop a))))) := by
  have hlen : t.cps.toList.length ≤ 100 := ht
  have hrun : (runOf (t.cps.toList.drop a)).length ≤ 100 := by
    have h1 : (runOf (t.cps.toList.drop a)).length ≤ (t.cps.toList.drop a).length := (List.takeWhile_sublist _).length_le
    rw [List.length_drop] at h1
    omega
  have er := ev_rest hS h ht
  generalize runOf (t.cps.toList.drop a) = run at hrun er ⊢
  have hr100 : (ofL run).length ≤ 100 := by rw [len_ofL]; exact hrun
  have fl := far_le (lo := lo) (hi := hi) (l := run)
  have hcl : ∀ (d : D) (o : O), d.blw 0 = true → o.blw 0 = true → closeV S.length d (S.set n o) = some (d, S.set n o) := fun d o hd ho => by
    have := closeV_val (d := d) (set_ok (n := n) hS ho) hd
    rw [List.length_set] at this
    exact this
  have esl : ∀ S', oSl (.str (ofL run)) none (some (far lo hi run : Nat)) S' = some (.str (ofL (run.take (far lo hi run))), S') := fun S' => by
    rw [sl_ok hr100 _ _, cut_b, toL_ofL]
  have eint : ∀ S', 0 < far lo hi run → bIntX [.str (ofL (run.take (far lo hi run)))] S' = some (.int (valOf lo hi run : Nat), S') := fun S' hp =>
    int_w (far_dig hp).1 (far_dig hp).2 (by rw [List.length_take]; omega)
  refine of_wd (w_fn rfl ?_)
  show Wd (B_Scan_take_number C [some (.loc n), some (.int (lo : Int)), some (.int (hi : Int)), none, none] S) _
  unfold B_Scan_take_number
  rw [w_seq, w_set, w_meth (p := .loc n) rfl (ins_sc h) no_run, w_nil, wd_eq er]
  simp only [List.set_cons_succ, List.set_cons_zero]
  rw [w_seq, w_set, w_c]
  simp only [List.set_cons_succ, List.set_cons_zero]
  rw [w_seq]
  refine numWhile hS hlo hhi hrun ?_
  simp only
  rw [w_seq, w_fldAug (p := .loc n) (fun _ => rfl) rfl (ins_sc h) (d := .int (a : Int)) (by simp [lookD, ne_at]), w_ifE, w_tr, w_good h rfl]
  refine ⟨g, rfl, ?_⟩
  cases g with
  | false =>
    simp only [Bool.false_eq_true, if_false, Bool.false_and]
    rw [w_c, wd_eq iadd_ok]
    have e0 : ((a : Int) + 0) = ((a + 0 : Nat) : Int) := by omega
    rw [e0]
    refine ⟨_, set_at h _, ?_⟩
    try simp only
    rw [w_seq, w_fldM, w_andV, w_good (get_set h) rfl]
    refine ⟨false, rfl, ?_⟩
    rw [if_neg Bool.false_ne_true, w_var rfl]
    refine ⟨_, set_good (get_set h) _, ?_⟩
    try simp only
    rw [List.set_set, w_ret, w_ifE, w_tr, w_good (get_set h) rfl]
    refine ⟨false, rfl, ?_⟩
    rw [if_neg Bool.false_ne_true, w_c]
    exact ⟨_, .inl rfl, wd_of (hcl _ _ (by simp only [D.blw]) sc_blw) ⟨rfl, rfl⟩⟩
  | true =>
    simp only [if_true, Bool.true_and]
    rw [w_var rfl, wd_eq iadd_ok]
    have e1 : ((a : Int) + (far lo hi run : Nat)) = ((a + far lo hi run : Nat) : Int) := by omega
    rw [e1]
    refine ⟨_, set_at h _, ?_⟩
    try simp only
    have fin : ∀ b : Bool, b = fitsN lo hi run → Wd (sRet (fIf (fTr (fFld C "good" (fVar 0))) (fCall bIntX (fCons (fSl (fVar 3) (foNone) (foSome (fVar 4))) (fNil))) (fC (.int 0))) [some (.loc n), some (.int (lo : Int)), some (.int (hi : Int)), some (.str (ofL run)), some (.int (far lo hi run : Nat))] (S.set n (Sc C t (a + far lo hi run) b)))
        fun r S1 => ∃ d, (r = .rt d ∨ ((∃ e, r = .nx e) ∧ d = .non)) ∧ Wd (closeV S.length d S1) fun v S'' => v = .int ((if fitsN lo hi run then valOf lo hi run else 0 : Nat) : Int) ∧ S'' = S.set n (Sc C t (a + far lo hi run) (fitsN lo hi run)) := fun b hb => by
      rw [w_ret, w_ifE, w_tr, w_good (get_set h) rfl]
      refine ⟨b, rfl, ?_⟩
      cases b with
      | false =>
        rw [if_neg Bool.false_ne_true, w_c, ← hb]
        exact ⟨_, .inl rfl, wd_of (hcl _ _ (by simp only [D.blw]) sc_blw) ⟨rfl, rfl⟩⟩
      | true =>
        have hp : 0 < far lo hi run := by
          have h2 := hb.symm
          unfold fitsN at h2
          rw [Bool.and_eq_true, decide_eq_true_eq] at h2
          exact h2.1
        rw [if_pos rfl, w_call, w_consA, w_sl, w_var rfl, w_oN, w_oS, w_var rfl]
        refine ⟨_, rfl, ?_⟩
        rw [wd_eq (esl _), w_nil, wd_eq (eint _ hp), ← hb]
        exact ⟨_, .inl rfl, wd_of (hcl _ _ (by simp only [D.blw]) sc_blw) ⟨rfl, rfl⟩⟩
    rw [w_seq, w_fldM, w_andV, w_good (get_set h) rfl]
    refine ⟨true, rfl, ?_⟩
    rw [if_pos rfl, w_andV, w_op, w_var rfl, w_c, wd_eq Drw.gt_ok]
    refine ⟨_, rfl, ?_⟩
    by_cases hp : 0 < far lo hi run
    · have d1 : decide ((0 : Int) < (far lo hi run : Nat)) = true := decide_eq_true (by omega)
      rw [if_pos d1, w_chain, w_var rfl, w_call, w_consA, w_sl, w_var rfl, w_oN, w_oS, w_var rfl]
      refine ⟨_, rfl, ?_⟩
      rw [wd_eq (esl _), w_nil, wd_eq (eint _ hp), wd_eq le_ok]
      refine ⟨_, rfl, ?_⟩
      by_cases hl : lo ≤ valOf lo hi run
      · have d2 : decide ((lo : Int) ≤ (valOf lo hi run : Nat)) = true := decide_eq_true (by omega)
        rw [if_pos d2, w_var rfl, wd_eq le_ok, w_var rfl]
        refine ⟨_, set_good (get_set h) _, ?_⟩
        simp only
        rw [List.set_set]
        refine fin _ ?_
        unfold fitsN
        rw [decide_eq_true hp, decide_eq_true hl, Bool.true_and, Bool.true_and, Bool.eq_iff_iff, decide_eq_true_eq, decide_eq_true_eq]
        omega
      · have d2 : ¬ decide ((lo : Int) ≤ (valOf lo hi run : Nat)) = true := by rw [decide_eq_true_eq]; omega
        rw [if_neg d2, w_var rfl]
        refine ⟨_, set_good (get_set h) _, ?_⟩
        simp only
        rw [List.set_set]
        refine fin _ ?_
        unfold fitsN
        rw [decide_eq_false hl, Bool.false_and, Bool.and_false]
    · have d1 : ¬ decide ((0 : Int) < (far lo hi run : Nat)) = true := by rw [decide_eq_true_eq]; omega
      rw [if_neg d1, w_var rfl]
      refine ⟨_, set_good (get_set h) _, ?_⟩
      simp only
      rw [List.set_set]
      refine fin _ ?_
      unfold fitsN
      rw [decide_eq_false hp, Bool.false_and]
end K02

set_option Elab.async false
set_option linter.all false
set_option maxRecDepth 100000
set_option autoImplicit false
set_option maxHeartbeats 2000000
namespace K02
open PySem L2 Mir
variable {S : Store} {C : Addr}
/-! ### the law's own going -/
def intsN (l : List Nat) : List Int := l.map fun (i : Nat) => (i : Int)
theorem rngN (n : Nat) : rng 0 (n : Int) = (List.range n).map fun (i : Nat) => D.int (i : Int) := by
  unfold rng
  rw [show ((n : Int) - 0).toNat = n by omega]
  refine List.map_congr_left fun i _ => ?_
  rw [Int.zero_add]
def pI (q : Nat → Bool) : D → Bool := fun d => match d with
  | .int i => q i.toNat
  | _ => false
theorem filter_rng (q : Nat → Bool) (l : List Nat) : (l.map fun (i : Nat) => D.int (i : Int)).filter (pI q) = (l.filter q).map fun (i : Nat) => D.int (i : Int) := by
  induction l with
  | nil => rfl
  | cons x l ih =>
    rw [List.map_cons, List.filter_cons, List.filter_cons, ih]
    have : pI q (.int (x : Int)) = q x := by simp [pI]
    rw [this]
    split <;> rfl
theorem asInts_N (l : List Nat) : asInts (l.map fun (i : Nat) => D.int (i : Int)) = some (intsN l) := by
  have := asInts_map0 (intsN l)
  rw [← this]
  unfold intsN
  rw [List.map_map]
  rfl
theorem maxQ {q : Nat → Bool} {n m : Nat} (hm : m < n) (h : ∀ k, k < n → q k = decide (k ≤ m)) : bMaxX [.lst (((List.range n).filter q).map fun (i : Nat) => D.int (i : Int))] S = some (.int (m : Int), S) := by
  have hmem : (m : Int) ∈ intsN ((List.range n).filter q) := by
    refine List.mem_map.mpr ⟨m, List.mem_filter.mpr ⟨List.mem_range.mpr hm, ?_⟩, rfl⟩
    rw [h m hm]
    simp
  have hne : intsN ((List.range n).filter q) ≠ [] := fun e => by rw [e] at hmem; cases hmem
  obtain ⟨g1, g2⟩ := maxL_ok _ hne
  have e : maxL (intsN ((List.range n).filter q)) = (m : Int) := by
    refine Int.le_antisymm ?_ (g2 _ hmem)
    obtain ⟨k, hk, e⟩ := List.mem_map.mp g1
    obtain ⟨k1, k2⟩ := List.mem_filter.mp hk
    rw [List.mem_range] at k1
    rw [h k k1, decide_eq_true_eq] at k2
    omega
  simp only [bMaxX, lsOf, Option.bind_some, asInts_N]
  rw [if_neg hne, e]
/-- the numbers of a range of which a test holds -/
theorem lc_rng {it : FA} {ts : FT} {j : Nat} {env : Mir.Env} {n : Nat} (q : Nat → Bool) (hS : SOk S) (hn : n ≤ 100) (hi : it env S = some (rng 0 (n : Int), S))
    (h : ∀ k, k < n → ∀ S', SOk S' → ts ((wipeE env [j]).set j (some (.int (k : Int)))) S' = some (q k, S')) (hj : ∀ d, ((wipeE env [j]).set j (some d))[j]? = some (some d)) :
    fLc it (tgN j) ts (fVar j) [j] env S = some (.lst (((List.range n).filter q).map fun (i : Nat) => D.int (i : Int)), S) := by
  have sl := Drw.sizeLine_le
  rw [rngN] at hi
  rw [fLc_pure (pI q) id hS hi (fun d hd => ?_) (by simp; omega), filter_rng, List.map_id]
  obtain ⟨k, hk, rfl⟩ := List.mem_map.mp hd
  rw [List.mem_range] at hk
  refine ⟨_, fun S' hS' => ⟨rfl, ?_, fun _ => ⟨?_, rfl⟩⟩⟩
  · rw [h k hk S' hS']
    simp [pI]
  · unfold fVar
    rw [hj]
    rfl
theorem take_cp : ∀ (l w : List Nat) (k : Nat), k ≤ w.length → ((l.take k == w.take k) = decide (k ≤ cp l w))
  | x :: xs, y :: ys, 0, _ => by simp
  | x :: xs, y :: ys, k + 1, h => by
    have ih := take_cp xs ys k (by simpa using h)
    rw [List.take_succ_cons, List.take_succ_cons]
    by_cases e : x = y
    · subst e
      have : cp (x :: xs) (x :: ys) = cp xs ys + 1 := by simp [cp]
      rw [this, Bool.eq_iff_iff] at *
      simp only [beq_iff_eq, decide_eq_true_eq] at ih ⊢
      constructor
      · intro q
        have := ih.mp (List.cons.inj q).2
        omega
      · intro q
        rw [ih.mpr (by omega)]
    · have : cp (x :: xs) (y :: ys) = 0 := by simp [cp, e]
      rw [this, Bool.eq_iff_iff]
      simp [e]
  | [], w, k, h => by
    have : cp [] w = 0 := by cases w <;> rfl
    rw [this, Bool.eq_iff_iff]
    cases k with
    | zero => simp
    | succ k =>
      cases w with
      | nil => simp at h
      | cons y ys => simp
  | _ :: _, [], k, h => by
    have : k = 0 := by simpa using h
    subst this
    simp [cp]
theorem cut_from (z : Str) (i j : Int) (a k : Nat) (hi : i = (a : Int)) (hj : j = ((a + k : Nat) : Int)) : cutS z (some i) (some j) = ofL ((z.cps.toList.drop a).take k) := by
  subst hi hj
  rw [cut_ab, Nat.add_sub_cancel_left]
theorem lt_sl {z : Str} {i j : Nat} (h : z.length ≤ 100) : True := trivial
/-- max of all k up to which the text goes with a word -/
theorem max_cp {E : FE} {t w : Str} {a : Nat} {x2 x3 x4 x5 x6 x7 x8 x9 : Option D} (hS : SOk S) (ht : t.length ≤ 100) (hw : w.length ≤ 50)
    (hE : ∀ x9' S', E [some (.str t), some (.int (a : Int)), x2, x3, x4, x5, x6, x7, x8, x9'] S' = some (.str w, S')) :
    fCall bMaxX (fCons (fLc (fRng1 (fOp oAdd (fCall bLen (fCons E (fNil))) (fC (.int 1)))) (tgN 9) (fB (fOp oEqX (fSl (fVar 0) (foSome (fVar 1)) (foSome (fOp oAdd (fVar 1) (fVar 9)))) (fSl E (foNone) (foSome (fVar 9))))) (fVar 9) [9]) (fNil))
      [some (.str t), some (.int (a : Int)), x2, x3, x4, x5, x6, x7, x8, x9] S = some (.int (cp (t.cps.toList.drop a) w.cps.toList : Nat), S) := by
  have hw1 : w.length ≤ 100 := by omega
  have hwl : w.cps.toList.length = w.length := rfl
  have hi : fRng1 (fOp oAdd (fCall bLen (fCons E (fNil))) (fC (.int 1))) [some (.str t), some (.int (a : Int)), x2, x3, x4, x5, x6, x7, x8, x9] S = some (rng 0 ((w.length + 1 : Nat) : Int), S) := by
    refine of_wd ?_
    rw [w_rng1, w_op, w_call, w_consA, wd_eq (hE _ _), w_nil, wd_eq (len_ok hw1), w_c, wd_eq Drw.add_ok]
    exact ⟨_, rfl, okR_of (by omega) (by omega), by rw [show ((w.length : Int) + 1) = ((w.length + 1 : Nat) : Int) by omega], rfl⟩
  have hl := lc_rng (j := 9) (q := fun k => (t.cps.toList.drop a).take k == w.cps.toList.take k) (env := [some (.str t), some (.int (a : Int)), x2, x3, x4, x5, x6, x7, x8, x9]) hS (n := w.length + 1) (by omega) hi
    (ts := fB (fOp oEqX (fSl (fVar 0) (foSome (fVar 1)) (foSome (fOp oAdd (fVar 1) (fVar 9)))) (fSl E (foNone) (foSome (fVar 9))))) (fun k hk S' hS' => by
      refine of_wd ?_
      show Wd (fB _ [some (.str t), some (.int (a : Int)), x2, x3, x4, x5, x6, x7, x8, some (.int (k : Int))] S') _
      rw [w_B, w_op, w_sl, w_var rfl, w_oS, w_var rfl]
      refine ⟨_, rfl, ?_⟩
      rw [w_oS, w_op, w_var rfl, w_var rfl, wd_eq Drw.add_ok]
      refine ⟨_, rfl, ?_⟩
      rw [wd_eq (sl_ok ht _ _), cut_from t _ _ a k rfl (by omega), w_sl, wd_eq (hE _ _), w_oN, w_oS, w_var rfl]
      refine ⟨_, rfl, ?_⟩
      rw [wd_eq (sl_ok hw1 _ _), cut_b, wd_eq eq_str, ofL_beq]
      exact ⟨_, rfl, rfl, rfl⟩) (fun d => rfl)
  refine of_wd ?_
  rw [w_call, w_consA, wd_eq hl, w_nil, wd_eq (maxQ (m := cp (t.cps.toList.drop a) w.cps.toList) ?_ fun k hk => ?_)]
  · exact ⟨rfl, rfl⟩
  · have := (cp_le (t.cps.toList.drop a) w.cps.toList).1
    omega
  · exact take_cp _ _ k (by omega)
/-! ### _law_is_begun -/
theorem subAt_take (x y : Str) : PySem.Txt.startswith x y = (x.cps.toList.take y.cps.toList.length == y.cps.toList) := by
  have e : PySem.Builtin.Str.subAt x y 0 = (x.cps.toList.take y.length == y.cps.toList) := by rw [PySem.StrLaws.subAt_eq, List.drop_zero]
  unfold PySem.Txt.startswith
  rw [e]
  have hl : y.length = y.cps.toList.length := rfl
  rw [hl]
  cases h : (x.cps.toList.take y.cps.toList.length == y.cps.toList) with
  | false => rw [Bool.and_false]
  | true =>
    rw [beq_iff_eq] at h
    have := congrArg List.length h
    rw [List.length_take] at this
    rw [Bool.and_true]
    refine decide_eq_true ?_
    show 0 + _ ≤ x.cps.toList.length
    omega
theorem ev_isbegun {lo hi : Nat} {w : List Nat} (hS : SOk S) (hlo : lo ≤ 2) (hh : hi < 500) : F__law_is_begun [.str (ofL w), .int (lo : Int), .int (hi : Int)] S = some (.bl (begB lo hi w), S) := by
  have sl : 1000 ≤ sizeLine := by decide
  refine of_wd (w_fn rfl ?_)
  show Wd (B__law_is_begun [some (.str (ofL w)), some (.int (lo : Int)), some (.int (hi : Int)), none] S) _
  unfold B__law_is_begun
  have er : rng (lo : Int) ((hi : Int) + 1) = (List.range (hi + 1 - lo)).map fun (k : Nat) => D.int ((lo + k : Nat) : Int) := by
    unfold rng
    rw [show ((hi : Int) + 1 - (lo : Int)).toNat = hi + 1 - lo by omega]
    refine List.map_congr_left fun i _ => ?_
    congr 1
  have hi' : fRng2 (fVar 1) (fOp oAdd (fVar 2) (fC (.int 1))) [some (.str (ofL w)), some (.int (lo : Int)), some (.int (hi : Int)), none] S = some ((List.range (hi + 1 - lo)).map fun (k : Nat) => D.int ((lo + k : Nat) : Int), S) := by
    have o1 : okR (lo : Int) = true := okR_of (by omega) (by omega)
    have o2 : okR ((hi : Int) + 1) = true := okR_of (by omega) (by omega)
    simp [fRng2, fnC, sRet, sCons, sIf, sSet, sNil, fAndV, fOrV, fCall, fCons, fVar, fC, fNil, bnd, asB, fNotV, fOp, fUn, fNot, fAnd, fOr, fB, fTr, fChain, fIf, fTup, fLst, fSl, foNone, foSome, asI, Drw.add_ok, o1, o2, er]
  have hlc := fLc_pure (tg := tgN 3) (ts := fTr (fMt "str" mStarts (fCall bStr (fCons (fVar 3) (fNil))) (fCons (fVar 0) (fNil)))) (elt := fVar 3) (vs := [3]) (fun d => match d with
    | .int i => begun i.toNat w
    | _ => false) id hS hi' (fun d hd => by
      obtain ⟨k, hk, rfl⟩ := List.mem_map.mp hd
      rw [List.mem_range] at hk
      refine ⟨[some (.str (ofL w)), some (.int (lo : Int)), some (.int (hi : Int)), some (.int ((lo + k : Nat) : Int))], fun S' hS' => ⟨rfl, ?_, fun _ => ⟨rfl, rfl⟩⟩⟩
      have e1 : PySem.Txt.startswith (Str.ofString (toString ((lo + k : Nat) : Int))) (ofL w) = begun (lo + k) w := by
        rw [subAt_take, toL_ofL, show (Str.ofString (toString ((lo + k : Nat) : Int))).cps.toList = TL.numL (lo + k) from TL.tl_num _]
        rfl
      refine of_wd ?_
      rw [w_tr]
      unfold fMt
      rw [wd_bnd, w_call, w_consA, w_var rfl, w_nil, wd_eq (str_hi (by omega)), if_pos (by rfl), wd_bnd, w_consA, w_var rfl, w_nil]
      refine wd_of (a := .bl (begun (lo + k) w)) (S := S') (by show some _ = _; rw [e1]) ?_
      exact ⟨_, rfl, rfl, rfl⟩) (by rw [List.length_map, List.length_range]; omega)
  have emp : (((List.range (hi + 1 - lo)).map fun (k : Nat) => D.int ((lo + k : Nat) : Int)).filter fun d => match d with
    | .int i => begun i.toNat w
    | _ => false).isEmpty = !begB lo hi w := by
    unfold begB
    generalize List.range (hi + 1 - lo) = l
    induction l with
    | nil => rfl
    | cons x l ih =>
      rw [List.map_cons, List.filter_cons, List.any_cons]
      have : (match (D.int ((lo + x : Nat) : Int)) with
        | .int i => begun i.toNat w
        | _ => false) = begun (lo + x) w := by
        show begun ((lo + x : Nat) : Int).toNat w = _
        rw [Int.toNat_natCast]
      rw [this]
      cases begun (lo + x) w with
      | true => rfl
      | false => simpa using ih
  rw [List.map_id] at hlc
  rw [w_ret, w_op, wd_eq hlc, w_lst, w_nil]
  refine ⟨by show 0 ≤ _; omega, ?_⟩
  rw [wd_eq (oNeX_nil _), emp, Bool.not_not]
  exact ⟨_, .inl rfl, wd_of (closeV_bl hS) ⟨rfl, rfl⟩⟩
/-! ### _law_run -/
def runBody : FS := sIf (fAnd (fB (fOp oLt (fVar 2) (fCall bLen (fCons (fVar 0) (fNil))))) (fB (fOp (oInN false) (fOp oIx (fVar 0) (fVar 2)) (fC (.str "abcdefghijklmnopqrstuvwxyz0123456789"))))) (sSet 2 (fOp oAdd (fVar 2) (fC (.int 1)))) (sNil)
theorem run_go {t : Str} {a : Nat} (ht : t.length ≤ 100) : ∀ (ls : List D) (i : Nat) (x3 : Option D), i ≤ (runOf (t.cps.toList.drop a)).length →
    Wd (forGo (tgN 3) runBody ls [some (.str t), some (.int (a : Int)), some (.int ((a + i : Nat) : Int)), x3] S) fun r S' => S' = S ∧ ∃ y, r = .nx [some (.str t), some (.int (a : Int)), some (.int ((a + min (i + ls.length) (runOf (t.cps.toList.drop a)).length : Nat) : Int)), y]
  | [], i, x3, h => wd_some.mpr ⟨rfl, x3, by simp [Nat.min_eq_left h]⟩
  | d :: ls, i, x3, h => by
    show Wd (bnd (tgN 3 d [some (.str t), some (.int (a : Int)), some (.int ((a + i : Nat) : Int)), x3] S) fun e1 S1 => bnd (runBody e1 S1) _) _
    rw [show tgN 3 d [some (.str t), some (.int (a : Int)), some (.int ((a + i : Nat) : Int)), x3] S = some ([some (.str t), some (.int (a : Int)), some (.int ((a + i : Nat) : Int)), some d], S) from rfl, bnd_some, wd_bnd]
    unfold runBody
    rw [w_if, w_and, w_B, w_op, w_var rfl, w_call, w_consA, w_var rfl, w_nil, wd_eq (len_ok ht), wd_eq lt_ok]
    refine ⟨_, rfl, ?_⟩
    by_cases hr : i < (runOf (t.cps.toList.drop a)).length
    · obtain ⟨c, hc, hal⟩ := run_at hr
      rw [List.getElem?_drop] at hc
      have hlt : a + i < t.cps.toList.length := (List.getElem?_eq_some_iff.mp hc).1
      have d1 : decide (((a + i : Nat) : Int) < (t.length : Int)) = true := decide_eq_true (by rw [len_toL]; omega)
      rw [if_pos d1, w_B, w_op, w_op, w_var rfl, w_var rfl, wd_eq (ix_ok ht hc), w_c, wd_eq in_al]
      refine ⟨_, rfl, ?_⟩
      rw [hal, if_pos rfl, w_set, w_op, w_var rfl, w_c, wd_eq Drw.add_ok]
      have e1 : (((a + i : Nat) : Int) + 1) = ((a + (i + 1) : Nat) : Int) := by omega
      rw [e1]
      have ih := run_go (a := a) ht ls (i + 1) (some d) (by omega)
      rw [show i + 1 + ls.length = i + (d :: ls).length by simp; omega] at ih
      exact ih
    · have hi : i = (runOf (t.cps.toList.drop a)).length := by omega
      have go : Wd (forGo (tgN 3) runBody ls [some (.str t), some (.int (a : Int)), some (.int ((a + i : Nat) : Int)), some d] S) fun r S' => S' = S ∧ ∃ y, r = .nx [some (.str t), some (.int (a : Int)), some (.int ((a + min (i + (d :: ls).length) (runOf (t.cps.toList.drop a)).length : Nat) : Int)), y] := by
        have ih := run_go (a := a) ht ls i (some d) h
        rw [show min (i + (d :: ls).length) (runOf (t.cps.toList.drop a)).length = min (i + ls.length) (runOf (t.cps.toList.drop a)).length by simp; omega]
        exact ih
      by_cases hlt : a + i < t.cps.toList.length
      · have d1 : decide (((a + i : Nat) : Int) < (t.length : Int)) = true := decide_eq_true (by rw [len_toL]; omega)
        have hc : t.cps.toList[a + i]? = some t.cps.toList[a + i] := List.getElem?_eq_getElem hlt
        have hs := run_stop (l := t.cps.toList.drop a) (by rw [← hi, List.getElem?_drop]; exact hc)
        rw [if_pos d1, w_B, w_op, w_op, w_var rfl, w_var rfl, wd_eq (ix_ok ht hc), w_c, wd_eq in_al]
        refine ⟨_, rfl, ?_⟩
        rw [hs, if_neg Bool.false_ne_true, w_sN]
        exact go
      · have d1 : ¬ decide (((a + i : Nat) : Int) < (t.length : Int)) = true := by
          rw [decide_eq_true_eq, len_toL]
          omega
        rw [if_neg d1, if_neg Bool.false_ne_true, w_sN]
        exact go
theorem ev_lrun {t : Str} {a : Nat} (hS : SOk S) (ht : t.length ≤ 100) : F__law_run [.str t, .int (a : Int)] S = some (.str (ofL (runOf (t.cps.toList.drop a))), S) := by
  refine of_wd (w_fn rfl ?_)
  show Wd (B__law_run [some (.str t), some (.int (a : Int)), none, none] S) _
  unfold B__law_run
  rw [w_seq, w_set, w_var rfl]
  simp only [List.set_cons_succ, List.set_cons_zero]
  rw [w_seq]
  unfold sFor
  rw [wd_bnd, w_rng1, w_call, w_consA, w_var rfl, w_nil, wd_eq (len_ok ht)]
  refine ⟨_, rfl, okR_of (by omega) (by omega), ?_⟩
  have go := run_go (S := S) (a := a) ht (rng 0 (t.length : Int)) 0 none (Nat.zero_le _)
  have lr : (rng 0 (t.length : Int)).length = t.length := by simp [rng]
  have hrun : (runOf (t.cps.toList.drop a)).length ≤ t.length := by
    have h1 : (runOf (t.cps.toList.drop a)).length ≤ (t.cps.toList.drop a).length := (List.takeWhile_sublist _).length_le
    rw [List.length_drop] at h1
    have : t.cps.toList.length = t.length := rfl
    omega
  rw [lr, Nat.zero_add, Nat.min_eq_right hrun] at go
  refine wd_mono go fun r S' hq => ?_
  obtain ⟨rfl, y, rfl⟩ := hq
  simp only
  rw [w_ret, w_sl, w_var rfl, w_oS, w_var rfl]
  refine ⟨_, rfl, ?_⟩
  rw [w_oS, w_var rfl]
  refine ⟨_, rfl, ?_⟩
  rw [wd_eq (sl_ok ht _ _), cut_ab, Nat.add_sub_cancel_left, run_take]
  exact ⟨_, .inl rfl, wd_of (closeV_val hS (by simp only [D.blw])) ⟨rfl, rfl⟩⟩
end K02

set_option Elab.async false
set_option linter.all false
set_option maxRecDepth 100000
set_option autoImplicit false
set_option maxHeartbeats 4000000
namespace K02
open PySem L2 Mir
variable {S : Store} {C : Addr}
theorem ix_n {l : List D} {i : Nat} {x : D} (h : l[i]? = some x) : oIx (.tup l) (.int (i : Int)) S = some (x, S) := by
  have e9 : atI l (i : Int) = some x := atI_nat h
  simp only [oIx, seqOf, Option.bind_some, e9, Option.map_some]
theorem ix0 {x : D} {r : List D} : oIx (.tup (x :: r)) (.int 0) S = some (x, S) := ix_n (i := 0) rfl
theorem ix1 {x y : D} {r : List D} : oIx (.tup (x :: y :: r)) (.int 1) S = some (y, S) := ix_n (i := 1) rfl
theorem ix2 {x y z : D} {r : List D} : oIx (.tup (x :: y :: z :: r)) (.int 2) S = some (z, S) := ix_n (i := 2) rfl
theorem close3 {i : Int} {b : Bool} {d : D} (hS : SOk S) (hd : d.blw 0 = true) : closeV S.length (.tup [.int i, .bl b, d]) S = some (.tup [.int i, .bl b, d], S) := closeV_val hS (by simp [D.blw, D.blws, hd])
theorem s3 : 3 ≤ sizeLine := by decide
theorem we : ((("word" : Str) == ("end" : Str)) = false) ∧ ((("word" : Str) == ("one" : Str)) = false) ∧ ((("word" : Str) == ("number" : Str)) = false) := by decide +kernel
theorem eq_word {x : Str} : (x == x) = true := by simp
/-- begins with no run of the first kinds -/
theorem ask_word {t w : Str} {a : Nat} (hS : SOk S) (ht : t.length ≤ 100) (hw : w.length ≤ 50) : F__law_gone [.str t, .int (a : Int), .tup [.str "word", .str w]] S =
    some (.tup [.int ((a + cp (t.cps.toList.drop a) w.cps.toList : Nat) : Int), .bl (decide (cp (t.cps.toList.drop a) w.cps.toList = w.length)), .non], S) := by
  have hw1 : w.length ≤ 100 := by omega
  refine of_wd (w_fn rfl ?_)
  show Wd (B__law_gone [some (.str t), some (.int (a : Int)), some (.tup [.str "word", .str w]), none, none, none, none, none, none, none] S) _
  unfold B__law_gone
  rw [w_seq, w_if, w_B, w_op, w_op, w_var rfl, w_c, wd_eq ix0, w_c, wd_eq eq_str]
  refine ⟨_, rfl, ?_⟩
  rw [if_pos eq_word, w_seq, w_set, wd_eq (max_cp hS ht hw fun x9' S' => by
    refine of_wd ?_
    rw [w_op, w_var rfl, w_c, wd_eq ix1]
    exact ⟨rfl, rfl⟩)]
  simp only [List.set_cons_succ, List.set_cons_zero]
  rw [w_ret, w_tup, w_consA, w_op, w_var rfl, w_var rfl, wd_eq Drw.add_ok, w_consA, w_op, w_var rfl, w_call, w_consA, w_op, w_var rfl, w_c, wd_eq ix1, w_nil, wd_eq (len_ok hw1), wd_eq Drw.eq_int, w_consA, w_c, w_nil]
  refine ⟨s3, _, .inl rfl, ?_⟩
  have e1 : ((a : Int) + ((cp (t.cps.toList.drop a) w.cps.toList : Nat) : Int)) = ((a + cp (t.cps.toList.drop a) w.cps.toList : Nat) : Int) := by omega
  have e2 : (((cp (t.cps.toList.drop a) w.cps.toList : Nat) : Int) == (w.length : Int)) = decide (cp (t.cps.toList.drop a) w.cps.toList = w.length) := by
    rw [Bool.eq_iff_iff, beq_iff_eq, decide_eq_true_eq]
    omega
  rw [e1, e2]
  exact wd_of (close3 hS (by simp only [D.blw])) ⟨rfl, rfl⟩
theorem ask_end {t : Str} {a : Nat} (hS : SOk S) (ht : t.length ≤ 100) : F__law_gone [.str t, .int (a : Int), .tup [.str "end"]] S = some (.tup [.int (a : Int), .bl (decide (a = t.cps.toList.length)), .non], S) := by
  have n1 : (("end" : Str) == ("word" : Str)) = false := by decide +kernel
  refine of_wd (w_fn rfl ?_)
  show Wd (B__law_gone [some (.str t), some (.int (a : Int)), some (.tup [.str "end"]), none, none, none, none, none, none, none] S) _
  unfold B__law_gone
  rw [w_seq, w_if, w_B, w_op, w_op, w_var rfl, w_c, wd_eq ix0, w_c, wd_eq eq_str]
  refine ⟨_, rfl, ?_⟩
  rw [n1, if_neg Bool.false_ne_true, w_sN]
  simp only
  rw [w_seq, w_if, w_B, w_op, w_op, w_var rfl, w_c, wd_eq ix0, w_c, wd_eq eq_str]
  refine ⟨_, rfl, ?_⟩
  rw [if_pos eq_word, w_ret, w_tup, w_consA, w_var rfl, w_consA, w_op, w_var rfl, w_call, w_consA, w_var rfl, w_nil, wd_eq (len_ok ht), wd_eq Drw.eq_int, w_consA, w_c, w_nil]
  refine ⟨s3, _, .inl rfl, ?_⟩
  have e2 : ((a : Int) == (t.length : Int)) = decide (a = t.cps.toList.length) := by
    rw [Bool.eq_iff_iff, beq_iff_eq, decide_eq_true_eq, len_toL]
    omega
  rw [e2]
  exact wd_of (close3 hS (by simp only [D.blw])) ⟨rfl, rfl⟩
theorem ask_one {t wb : Str} {a : Nat} {ws : List Str} (hS : SOk S) (ht : t.length ≤ 100) (hw : ∀ w ∈ ws, w.length ≤ 50) (hl : ws.length ≤ 100) (hne : ws ≠ []) (hb : ws[bestOf (t.cps.toList.drop a) ws]? = some wb) :
    F__law_gone [.str t, .int (a : Int), .tup [.str "one", .lst (strsD ws)]] S = some (.tup [.int ((a + cp (t.cps.toList.drop a) wb.cps.toList : Nat) : Int), .bl (decide (cp (t.cps.toList.drop a) wb.cps.toList = wb.length)), .str wb], S) := by
  have n1 : (("one" : Str) == ("word" : Str)) = false := by decide +kernel
  have n2 : (("one" : Str) == ("end" : Str)) = false := by decide +kernel
  have sl := Drw.sizeLine_le
  have hwb : wb.length ≤ 50 := hw _ (List.mem_of_getElem? hb)
  have e9 : ∀ S', oIx (.lst (strsD ws)) (.int (bestOf (t.cps.toList.drop a) ws : Nat)) S' = some (.str wb, S') := fun S' => by
    have e9 : atI (strsD ws) ((bestOf (t.cps.toList.drop a) ws : Nat) : Int) = some (.str wb) := atI_nat (by rw [strsD, List.getElem?_map, hb]; rfl)
    simp only [oIx, seqOf, Option.bind_some, e9, Option.map_some]
  have e8 : ∀ S', oIx (.lst ((shares (t.cps.toList.drop a) ws).map .int)) (.int (bestOf (t.cps.toList.drop a) ws : Nat)) S' = some (.int (cp (t.cps.toList.drop a) wb.cps.toList : Nat), S') := fun S' => by
    have e8 : atI ((shares (t.cps.toList.drop a) ws).map D.int) ((bestOf (t.cps.toList.drop a) ws : Nat) : Int) = some (.int (cp (t.cps.toList.drop a) wb.cps.toList : Nat)) := atI_nat (by
      rw [shares, List.getElem?_map, List.getElem?_map, hb]; rfl)
    simp only [oIx, seqOf, Option.bind_some, e8, Option.map_some]
  refine of_wd (w_fn rfl ?_)
  show Wd (B__law_gone [some (.str t), some (.int (a : Int)), some (.tup [.str "one", .lst (strsD ws)]), none, none, none, none, none, none, none] S) _
  unfold B__law_gone
  rw [w_seq, w_if, w_B, w_op, w_op, w_var rfl, w_c, wd_eq ix0, w_c, wd_eq eq_str]
  refine ⟨_, rfl, ?_⟩
  rw [n1, if_neg Bool.false_ne_true, w_sN]
  simp only
  rw [w_seq, w_if, w_B, w_op, w_op, w_var rfl, w_c, wd_eq ix0, w_c, wd_eq eq_str]
  refine ⟨_, rfl, ?_⟩
  rw [n2, if_neg Bool.false_ne_true, w_sN]
  simp only
  rw [w_seq, w_if, w_B, w_op, w_op, w_var rfl, w_c, wd_eq ix0, w_c, wd_eq eq_str]
  refine ⟨_, rfl, ?_⟩
  have hlc : fLc (fIt gSeq (fOp oIx (fVar 2) (fC (.int 1)))) (tgN 7) (tYesF) (fCall bMaxX (fCons (fLc (fRng1 (fOp oAdd (fCall bLen (fCons (fVar 7) (fNil))) (fC (.int 1)))) (tgN 9) (fB (fOp oEqX (fSl (fVar 0) (foSome (fVar 1)) (foSome (fOp oAdd (fVar 1) (fVar 9)))) (fSl (fVar 7) (foNone) (foSome (fVar 9))))) (fVar 9) [9]) (fNil))) [7]
      [some (.str t), some (.int (a : Int)), some (.tup [.str "one", .lst (strsD ws)]), none, none, none, none, none, none, none] S = some (.lst ((shares (t.cps.toList.drop a) ws).map .int), S) := by
    rw [fLc_map (ds := strsD ws) (fun d => match d with
      | .str z => .int (cp (t.cps.toList.drop a) z.cps.toList : Nat)
      | _ => .non) hS (by simp [fIt, fVar, fOp, fC, bnd, gSeq, ix1]) (fun d hd => ?_) (by simp [strsD]; omega)]
    · simp [strsD, shares, Function.comp_def]
    · obtain ⟨w, hw', rfl⟩ := List.mem_map.mp hd
      exact ⟨_, fun S' hS' => ⟨rfl, max_cp hS' ht (hw w hw') fun x9' S'' => rfl, rfl⟩⟩
  rw [if_pos eq_word, w_seq, w_set, wd_eq hlc]
  simp only [List.set_cons_succ, List.set_cons_zero]
  have hmt : Wd (fMt "list" mIndex (fVar 4) (fCons (fCall bMaxX (fCons (fVar 4) (fNil))) (fNil)) [some (.str t), some (.int (a : Int)), some (.tup [.str "one", .lst (strsD ws)]), none, some (.lst ((shares (t.cps.toList.drop a) ws).map .int)), none, none, none, none, none] S) fun d S' => d = .int (bestOf (t.cps.toList.drop a) ws : Nat) ∧ S' = S := by
    unfold fMt
    rw [wd_bnd, w_var rfl, if_pos (by rfl), wd_bnd, w_consA, w_call, w_consA, w_var rfl, w_nil, wd_eq (max_ok hne), w_nil, wd_eq (index_ok hne)]
    exact ⟨rfl, rfl⟩
  rw [w_seq, w_set]
  refine wd_mono hmt fun d S' hq => ?_
  obtain ⟨rfl, rfl⟩ := hq
  simp only [List.set_cons_succ, List.set_cons_zero]
  rw [w_ret, w_tup, w_consA, w_op, w_var rfl, w_op, w_var rfl, w_var rfl, wd_eq (e8 _), wd_eq Drw.add_ok, w_consA, w_op, w_op, w_var rfl, w_var rfl, wd_eq (e8 _), w_call, w_consA, w_op, w_op, w_var rfl, w_c, wd_eq ix1, w_var rfl, wd_eq (e9 _), w_nil, wd_eq (len_ok (by omega)), wd_eq Drw.eq_int,
    w_consA, w_op, w_op, w_var rfl, w_c, wd_eq ix1, w_var rfl, wd_eq (e9 _), w_nil]
  refine ⟨s3, _, .inl rfl, ?_⟩
  have e1 : ((a : Int) + ((cp (t.cps.toList.drop a) wb.cps.toList : Nat) : Int)) = ((a + cp (t.cps.toList.drop a) wb.cps.toList : Nat) : Int) := by omega
  have e2 : (((cp (t.cps.toList.drop a) wb.cps.toList : Nat) : Int) == (wb.length : Int)) = decide (cp (t.cps.toList.drop a) wb.cps.toList = wb.length) := by
    rw [Bool.eq_iff_iff, beq_iff_eq, decide_eq_true_eq]
    omega
  rw [e1, e2]
  exact wd_of (close3 hS (by simp only [D.blw])) ⟨rfl, rfl⟩
/-! ### numbers -/
theorem run_len (l : List Nat) : (runOf l).length ≤ l.length := (List.takeWhile_sublist _).length_le
theorem run_all : ∀ (l : List Nat) (k : Nat), k ≤ l.length → (l.take k).all al = true → k ≤ (runOf l).length ∧ (runOf l).take k = l.take k
  | _, 0, _, _ => by simp
  | [], k + 1, h, _ => by simp at h
  | x :: l, k + 1, h, ha => by
    rw [List.take_succ_cons, List.all_cons, Bool.and_eq_true] at ha
    have ih := run_all l k (by simpa using h) ha.2
    have e : runOf (x :: l) = x :: runOf l := by
      unfold runOf
      rw [List.takeWhile_cons, if_pos ha.1]
    rw [e, List.take_succ_cons, List.take_succ_cons, ih.2]
    exact ⟨by simp; omega, rfl⟩
theorem dig_al {c : Nat} (h : dig c = true) : al c = true := by
  obtain ⟨d, hd, rfl⟩ := digE h
  have : d = 0 ∨ d = 1 ∨ d = 2 ∨ d = 3 ∨ d = 4 ∨ d = 5 ∨ d = 6 ∨ d = 7 ∨ d = 8 ∨ d = 9 := by omega
  rcases this with rfl | rfl | rfl | rfl | rfl | rfl | rfl | rfl | rfl | rfl <;> decide +kernel
theorem beg_run {lo hi k : Nat} {l : List Nat} : (begB lo hi ((runOf l).take k) && decide (k ≤ (runOf l).length)) = (begB lo hi (l.take k) && decide (k ≤ l.length)) := by
  rw [Bool.eq_iff_iff, Bool.and_eq_true, Bool.and_eq_true, decide_eq_true_eq, decide_eq_true_eq]
  have h1 := run_len l
  constructor
  · rintro ⟨h, h2⟩
    have e : (runOf l).take k = l.take k := by
      conv => lhs; rw [← run_take l]
      rw [List.take_take, Nat.min_eq_left h2]
    exact ⟨by rw [← e]; exact h, by omega⟩
  · rintro ⟨h, h2⟩
    obtain ⟨n, b1, b2, b3⟩ := begB_iff.mp h
    have hd := begun_dig b3
    obtain ⟨g1, g2⟩ := run_all l k h2 (List.all_eq_true.mpr fun c hc => dig_al (List.all_eq_true.mp hd c hc))
    exact ⟨by rw [g2]; exact h, g1⟩
theorem far_run {lo hi : Nat} {l : List Nat} : far lo hi (runOf l) = far lo hi l := by
  unfold far
  rw [beg_run, beg_run, beg_run]
theorem take_run {lo hi : Nat} {l : List Nat} : (runOf l).take (far lo hi l) = l.take (far lo hi l) := by
  have fl := far_le (lo := lo) (hi := hi) (l := runOf l)
  rw [far_run] at fl
  conv => lhs; rw [← run_take l]
  rw [List.take_take, Nat.min_eq_left fl.1]
theorem far_q {lo hi k : Nat} {l : List Nat} (hh : hi < 1000) : (decide (k ≤ l.length) && (k == 0 || begB lo hi (l.take k))) = decide (k ≤ far lo hi l) := by
  have fl := far_le (lo := lo) (hi := hi) (l := l)
  rw [Bool.eq_iff_iff, Bool.and_eq_true, decide_eq_true_eq, decide_eq_true_eq, Bool.or_eq_true, beq_iff_eq]
  constructor
  · rintro ⟨h1, h2⟩
    rcases h2 with h2 | h2
    · omega
    · by_cases hk : k ≤ far lo hi l
      · exact hk
      · have hn := far_no (lo := lo) (l := l) hh (by omega)
        have hp := begB_pre (k := far lo hi l + 1) h2
        rw [List.take_take, Nat.min_eq_left (by omega)] at hp
        rw [hp] at hn
        cases hn
  · intro h
    refine ⟨by omega, ?_⟩
    by_cases h0 : k = 0
    · exact .inl h0
    · exact .inr (far_yes h (by omega))
/-- what begins a number is the text of its own number -/
theorem own_text {lo hi : Nat} {w : List Nat} (hlo : lo ≤ 2) (hhi : hi < 1000) (hne : w ≠ []) (h : begB lo hi w = true) : TL.numL (PySem.NumText.digitsVal w) = w := by
  obtain ⟨n, b1, b2, b3⟩ := begB_iff.mp h
  have hd := begun_dig b3
  have hl : w.length ≤ 3 := by
    have g1 := begun_len b3
    have g2 := numL_len3 (n := n) (by omega)
    omega
  match w, hl, hne with
  | [x], _, _ =>
    obtain ⟨d, d1, rfl⟩ := digE (c := x) (by simpa using hd)
    rw [val1, num1 d1]
  | [x, y], _, _ =>
    simp only [List.all_cons, List.all_nil, Bool.and_true, Bool.and_eq_true] at hd
    obtain ⟨d, d1, rfl⟩ := digE hd.1
    obtain ⟨e, e1, rfl⟩ := digE hd.2
    have := (beg2 d1 e1 hhi hlo).mp h
    rw [val2, num2 (by omega) (by omega)]
    congr 1
    · omega
    · congr 1
      omega
  | [x, y, z], _, _ =>
    simp only [List.all_cons, List.all_nil, Bool.and_true, Bool.and_eq_true] at hd
    obtain ⟨d, d1, rfl⟩ := digE hd.1
    obtain ⟨e, e1, rfl⟩ := digE hd.2.1
    obtain ⟨f, f1, rfl⟩ := digE hd.2.2
    have := (beg3 d1 e1 f1 hhi hlo).mp h
    rw [val3, num3 (by omega) (by omega)]
    congr 1
    · omega
    · congr 1
      · omega
      · congr 1
        omega
end K02

set_option Elab.async false
set_option linter.all false
set_option maxRecDepth 100000
set_option autoImplicit false
set_option maxHeartbeats 4000000
namespace K02
open PySem L2 Mir
variable {S : Store} {C : Addr}
theorem not_word {x : Str} {env : Mir.Env} {y : D} {r : List D} {b : FS} {QS : Rt → Store → Prop} (k : Str) (e : env[2]? = some (some (.tup (.str x :: r)))) (h : (x == k) = false) : Wd (sIf (fB (fOp oEqX (fOp oIx (fVar 2) (fC (.int 0))) (fC (.str k)))) b sNil env S) QS ↔ QS (.nx env) S := by
  rw [w_if, w_B, w_op, w_op, w_var e, w_c, wd_eq ix0, w_c, wd_eq eq_str]
  constructor
  · rintro ⟨c, e1, q⟩
    cases e1
    rw [h, if_neg Bool.false_ne_true] at q
    exact w_sN.mp q
  · intro q
    refine ⟨_, rfl, ?_⟩
    rw [h, if_neg Bool.false_ne_true]
    exact w_sN.mpr q
theorem isword {x : Str} {env : Mir.Env} {y : D} {r : List D} {b : FS} {QS : Rt → Store → Prop} (e : env[2]? = some (some (.tup (.str x :: r)))) : Wd (sIf (fB (fOp oEqX (fOp oIx (fVar 2) (fC (.int 0))) (fC (.str x)))) b sNil env S) QS ↔ Wd (b env S) QS := by
  rw [w_if, w_B, w_op, w_op, w_var e, w_c, wd_eq ix0, w_c, wd_eq eq_str]
  constructor
  · rintro ⟨c, e1, q⟩
    cases e1
    rw [if_pos eq_word] at q
    exact q
  · intro q
    refine ⟨_, rfl, ?_⟩
    rw [if_pos eq_word]
    exact q
theorem str_val {v : Nat} (h : v < 1000) : bStr [.int (v : Int)] S = some (.str (ofL (TL.numL v)), S) := by
  rw [str_hi h]
  congr 3
  exact str_ext (by rw [toL_ofL]; exact TL.tl_num _)
theorem dval3 {lo hi : Nat} {w : List Nat} (hlo : lo ≤ 2) (hhi : hi < 1000) (hne : w ≠ []) (h : begB lo hi w = true) : PySem.NumText.digitsVal w < 1000 := by
  obtain ⟨n, b1, b2, b3⟩ := begB_iff.mp h
  have hd := begun_dig b3
  have hl : w.length ≤ 3 := by
    have g1 := begun_len b3
    have g2 := numL_len3 (n := n) (by omega)
    omega
  match w, hl, hne with
  | [x], _, _ =>
    obtain ⟨d, d1, rfl⟩ := digE (c := x) (by simpa using hd)
    rw [val1]
    omega
  | [x, y], _, _ =>
    simp only [List.all_cons, List.all_nil, Bool.and_true, Bool.and_eq_true] at hd
    obtain ⟨d, d1, rfl⟩ := digE hd.1
    obtain ⟨e, e1, rfl⟩ := digE hd.2
    rw [val2]
    omega
  | [x, y, z], _, _ =>
    simp only [List.all_cons, List.all_nil, Bool.and_true, Bool.and_eq_true] at hd
    obtain ⟨d, d1, rfl⟩ := digE hd.1
    obtain ⟨e, e1, rfl⟩ := digE hd.2.1
    obtain ⟨f, f1, rfl⟩ := digE hd.2.2
    rw [val3]
    omega
def numD (b : Bool) (v : Nat) : D := if b then .int (v : Int) else .non
theorem ask_number {t : Str} {a lo hi : Nat} (hS : SOk S) (ht : t.length ≤ 100) (ha : a ≤ t.length) (hlo : lo ≤ 2) (hhi : hi = 12 ∨ hi = 60 ∨ hi = 400) :
    F__law_gone [.str t, .int (a : Int), .tup [.str "number", .int (lo : Int), .int (hi : Int)]] S =
      some (.tup [.int ((a + far lo hi (t.cps.toList.drop a) : Nat) : Int), .bl (fitsN lo hi (t.cps.toList.drop a)), numD (fitsN lo hi (t.cps.toList.drop a)) (valOf lo hi (t.cps.toList.drop a))], S) := by
  have n1 : (("number" : Str) == ("word" : Str)) = false := by decide +kernel
  have n2 : (("number" : Str) == ("end" : Str)) = false := by decide +kernel
  have n3 : (("number" : Str) == ("one" : Str)) = false := by decide +kernel
  have tl : t.cps.toList.length = t.length := rfl
  have hl : (t.cps.toList.drop a).length = t.length - a := by rw [List.length_drop, tl]
  have fl := far_le (lo := lo) (hi := hi) (l := t.cps.toList.drop a)
  have ecut : ∀ k : Nat, cutS t (some (a : Int)) (some ((a + k : Nat) : Int)) = ofL ((t.cps.toList.drop a).take k) := fun k => cut_from t _ _ a k rfl rfl
  refine of_wd (w_fn rfl ?_)
  show Wd (B__law_gone [some (.str t), some (.int (a : Int)), some (.tup [.str "number", .int (lo : Int), .int (hi : Int)]), none, none, none, none, none, none, none] S) _
  unfold B__law_gone
  rw [w_seq, not_word (y := .non) "word" rfl n1]
  simp only
  rw [w_seq, not_word (y := .non) "end" rfl n2]
  simp only
  rw [w_seq, not_word (y := .non) "one" rfl n3]
  simp only
  rw [w_seq, isword (y := .non) rfl]
  have hmax : fCall bMaxX (fCons (fLc (fRng1 (fC (.int 5))) (tgN 9) (fAnd (fB (fOp oLe (fVar 9) (fOp oSub (fCall bLen (fCons (fVar 0) (fNil))) (fVar 1)))) (fOr (fB (fOp oEqX (fVar 9) (fC (.int 0)))) (fTr (fCall F__law_is_begun (fCons (fSl (fVar 0) (foSome (fVar 1)) (foSome (fOp oAdd (fVar 1) (fVar 9)))) (fCons (fOp oIx (fVar 2) (fC (.int 1))) (fCons (fOp oIx (fVar 2) (fC (.int 2))) (fNil)))))))) (fVar 9) [9]) (fNil))
      [some (.str t), some (.int (a : Int)), some (.tup [.str "number", .int (lo : Int), .int (hi : Int)]), none, none, none, none, none, none, none] S = some (.int (far lo hi (t.cps.toList.drop a) : Nat), S) := by
    have hlc := lc_rng (j := 9) (it := fRng1 (fC (.int 5))) (q := fun k => decide (k ≤ (t.cps.toList.drop a).length) && (k == 0 || begB lo hi ((t.cps.toList.drop a).take k))) (env := [some (.str t), some (.int (a : Int)), some (.tup [.str "number", .int (lo : Int), .int (hi : Int)]), none, none, none, none, none, none, none]) hS (n := 5) (by omega)
      (by simp [fRng1, fC, asI, bnd, okR]) (ts := fAnd (fB (fOp oLe (fVar 9) (fOp oSub (fCall bLen (fCons (fVar 0) (fNil))) (fVar 1)))) (fOr (fB (fOp oEqX (fVar 9) (fC (.int 0)))) (fTr (fCall F__law_is_begun (fCons (fSl (fVar 0) (foSome (fVar 1)) (foSome (fOp oAdd (fVar 1) (fVar 9)))) (fCons (fOp oIx (fVar 2) (fC (.int 1))) (fCons (fOp oIx (fVar 2) (fC (.int 2))) (fNil)))))))) (fun k hk S' hS' => by
        refine of_wd ?_
        show Wd (fAnd _ _ [some (.str t), some (.int (a : Int)), some (.tup [.str "number", .int (lo : Int), .int (hi : Int)]), none, none, none, none, none, none, some (.int (k : Int))] S') _
        rw [w_and, w_B, w_op, w_var rfl, w_op, w_call, w_consA, w_var rfl, w_nil, wd_eq (len_ok ht), w_var rfl, wd_eq Drw.sub_ok, wd_eq le_ok]
        refine ⟨_, rfl, ?_⟩
        by_cases h1 : k ≤ (t.cps.toList.drop a).length
        · have d1 : decide ((k : Int) ≤ (t.length : Int) - (a : Int)) = true := decide_eq_true (by omega)
          rw [if_pos d1, w_or, w_B, w_op, w_var rfl, w_c, wd_eq Drw.eq_int]
          refine ⟨_, rfl, ?_⟩
          by_cases h0 : k = 0
          · subst h0
            simp
          · have e0 : ((k : Int) == 0) = false := by
              rw [beq_eq_false_iff_ne]
              omega
            rw [e0, if_neg Bool.false_ne_true, w_tr, w_call, w_consA, w_sl, w_var rfl, w_oS, w_var rfl]
            refine ⟨_, rfl, ?_⟩
            rw [w_oS, w_op, w_var rfl, w_var rfl, wd_eq Drw.add_ok]
            refine ⟨_, rfl, ?_⟩
            have e1 : ((a : Int) + (k : Int)) = ((a + k : Nat) : Int) := by omega
            rw [e1, wd_eq (sl_ok ht _ _), ecut, w_consA, w_op, w_var rfl, w_c, wd_eq ix1, w_consA, w_op, w_var rfl, w_c, wd_eq ix2, w_nil, wd_eq (ev_isbegun hS' hlo (by omega))]
            exact ⟨_, rfl, by rw [decide_eq_true h1, Bool.true_and, beq_eq_false_iff_ne.mpr h0, Bool.false_or], rfl⟩
        · have d1 : ¬ decide ((k : Int) ≤ (t.length : Int) - (a : Int)) = true := by rw [decide_eq_true_eq]; omega
          rw [if_neg d1]
          exact ⟨by rw [decide_eq_false h1, Bool.false_and], rfl⟩) (fun d => rfl)
    refine of_wd ?_
    rw [w_call, w_consA, wd_eq hlc, w_nil, wd_eq (maxQ (m := far lo hi (t.cps.toList.drop a)) (by omega) fun k hk => far_q (by omega))]
    exact ⟨rfl, rfl⟩
  rw [w_seq, w_set, wd_eq hmax]
  simp only [List.set_cons_succ, List.set_cons_zero]
  rw [w_seq, w_set, w_sl, w_var rfl, w_oS, w_var rfl]
  refine ⟨_, rfl, ?_⟩
  rw [w_oS, w_op, w_var rfl, w_var rfl, wd_eq Drw.add_ok]
  refine ⟨_, rfl, ?_⟩
  have e1 : ((a : Int) + (far lo hi (t.cps.toList.drop a) : Nat)) = ((a + far lo hi (t.cps.toList.drop a) : Nat) : Int) := by omega
  rw [e1, wd_eq (sl_ok ht _ _), ecut]
  simp only [List.set_cons_succ, List.set_cons_zero]
  have ze : ("" : Str) = ofL [] := rfl
  -- what fits
  have hint : ∀ S', 0 < far lo hi (t.cps.toList.drop a) → bIntX [.str (ofL ((t.cps.toList.drop a).take (far lo hi (t.cps.toList.drop a))))] S' = some (.int (valOf lo hi (t.cps.toList.drop a) : Nat), S') := fun S' hp =>
    int_w (far_dig hp).1 (far_dig hp).2 (by rw [List.length_take]; omega)
  have hfits : Wd ((fAndV (fOp oNeX (fVar 7) (fC (.str ""))) (fAndV (fCall F__law_is_begun (fCons (fVar 7) (fCons (fOp oIx (fVar 2) (fC (.int 1))) (fCons (fOp oIx (fVar 2) (fC (.int 2))) (fNil))))) (fAndV (fOp oEqX (fCall bStr (fCons (fCall bIntX (fCons (fVar 7) (fNil))) (fNil))) (fVar 7)) (fChain oLe oLe (fOp oIx (fVar 2) (fC (.int 1))) (fCall bIntX (fCons (fVar 7) (fNil))) (fOp oIx (fVar 2) (fC (.int 2)))))))
      [some (.str t), some (.int (a : Int)), some (.tup [.str "number", .int (lo : Int), .int (hi : Int)]), none, none, none, some (.int (far lo hi (t.cps.toList.drop a) : Nat)), some (.str (ofL ((t.cps.toList.drop a).take (far lo hi (t.cps.toList.drop a))))), none, none] S) fun d S' => d = .bl (fitsN lo hi (t.cps.toList.drop a)) ∧ S' = S := by
    rw [w_andV, w_op, w_var rfl, w_c, wd_eq ne_str, ze, ofL_beq]
    refine ⟨_, rfl, ?_⟩
    by_cases hp : 0 < far lo hi (t.cps.toList.drop a)
    · have hb := far_yes (lo := lo) (hi := hi) (l := t.cps.toList.drop a) (Nat.le_refl _) hp
      have hne := (far_dig hp).2
      have d1 : (!((t.cps.toList.drop a).take (far lo hi (t.cps.toList.drop a)) == [])) = true := by
        rw [Bool.not_eq_true', beq_eq_false_iff_ne]
        exact hne
      rw [if_pos d1, w_andV, w_call, w_consA, w_var rfl, w_consA, w_op, w_var rfl, w_c, wd_eq ix1, w_consA, w_op, w_var rfl, w_c, wd_eq ix2, w_nil, wd_eq (ev_isbegun hS hlo (by omega)), hb]
      refine ⟨_, rfl, ?_⟩
      have hv : valOf lo hi (t.cps.toList.drop a) < 1000 := dval3 (hi := hi) hlo (by omega) hne hb
      have hown : TL.numL (valOf lo hi (t.cps.toList.drop a)) = (t.cps.toList.drop a).take (far lo hi (t.cps.toList.drop a)) := own_text (hi := hi) hlo (by omega) hne hb
      rw [if_pos rfl, w_andV, w_op, w_call, w_consA, w_call, w_consA, w_var rfl, w_nil, wd_eq (hint _ hp), w_nil, wd_eq (str_val hv), w_var rfl, wd_eq eq_str, ofL_beq, hown]
      refine ⟨_, rfl, ?_⟩
      rw [if_pos (show ((_ : List Nat) == _) = true by simp), w_chain, w_op, w_var rfl, w_c, wd_eq ix1, w_call, w_consA, w_var rfl, w_nil, wd_eq (hint _ hp), wd_eq le_ok]
      refine ⟨_, rfl, ?_⟩
      unfold fitsN
      rw [decide_eq_true hp, Bool.true_and]
      by_cases h2 : lo ≤ valOf lo hi (t.cps.toList.drop a)
      · have d2 : decide ((lo : Int) ≤ (valOf lo hi (t.cps.toList.drop a) : Nat)) = true := decide_eq_true (by omega)
        rw [if_pos d2, w_op, w_var rfl, w_c, wd_eq ix2, wd_eq le_ok, decide_eq_true h2, Bool.true_and]
        refine ⟨?_, rfl⟩
        congr 1
        rw [Bool.eq_iff_iff, decide_eq_true_eq, decide_eq_true_eq]
        omega
      · have d2 : ¬ decide ((lo : Int) ≤ (valOf lo hi (t.cps.toList.drop a) : Nat)) = true := by rw [decide_eq_true_eq]; omega
        rw [if_neg d2, decide_eq_false h2, Bool.false_and]
        exact ⟨rfl, rfl⟩
    · have h0 : far lo hi (t.cps.toList.drop a) = 0 := by omega
      have d1 : ¬ (!((t.cps.toList.drop a).take (far lo hi (t.cps.toList.drop a)) == [])) = true := by
        rw [h0, List.take_zero]
        simp
      rw [if_neg d1]
      unfold fitsN
      rw [decide_eq_false hp, Bool.false_and]
      exact ⟨rfl, rfl⟩
  rw [w_seq, w_set]
  refine wd_mono hfits fun d S' hq => ?_
  obtain ⟨rfl, rfl⟩ := hq
  simp only [List.set_cons_succ, List.set_cons_zero]
  rw [w_ret, w_tup, w_consA, w_op, w_var rfl, w_var rfl, wd_eq Drw.add_ok, e1, w_consA, w_var rfl, w_consA, w_ifE, w_tr, w_var rfl]
  refine ⟨_, rfl, ?_⟩
  cases hf : fitsN lo hi (t.cps.toList.drop a) with
  | false =>
    rw [if_neg Bool.false_ne_true, w_c, w_nil]
    exact ⟨s3, _, .inl rfl, wd_of (close3 hS (by simp only [D.blw])) ⟨rfl, rfl⟩⟩
  | true =>
    have hp : 0 < far lo hi (t.cps.toList.drop a) := by
      unfold fitsN at hf
      rw [Bool.and_eq_true, decide_eq_true_eq] at hf
      exact hf.1
    rw [if_pos rfl, w_call, w_consA, w_var rfl, w_nil, wd_eq (hint _ hp), w_nil]
    exact ⟨s3, _, .inl rfl, wd_of (close3 hS (by simp only [D.blw])) ⟨rfl, rfl⟩⟩
/-! ### names -/
def nameM (l : List Nat) : Nat := if begins l then min (runOf l).length 8 else 0
def nameZ (l : List Nat) : Str := ofL ((runOf l).take (nameM l))
theorem ask_name {t : Str} {a : Nat} (hS : SOk S) (ht : t.length ≤ 100) : F__law_gone [.str t, .int (a : Int), .tup [.str "name"]] S =
    some (.tup [.int ((a + nameM (t.cps.toList.drop a) : Nat) : Int), .bl (Drw.isNS (nameZ (t.cps.toList.drop a))), .str (nameZ (t.cps.toList.drop a))], S) := by
  have n1 : (("name" : Str) == ("word" : Str)) = false := by decide +kernel
  have n2 : (("name" : Str) == ("end" : Str)) = false := by decide +kernel
  have n3 : (("name" : Str) == ("one" : Str)) = false := by decide +kernel
  have n4 : (("name" : Str) == ("number" : Str)) = false := by decide +kernel
  have tl : t.cps.toList.length = t.length := rfl
  have hrun := run_len (t.cps.toList.drop a)
  rw [List.length_drop, tl] at hrun
  have er := ev_lrun (a := a) hS ht
  unfold nameZ nameM begins
  generalize runOf (t.cps.toList.drop a) = run at hrun er ⊢
  have hr2 : (ofL run).length ≤ 100 := by rw [len_ofL]; omega
  have h8 : (ofL (run.take 8)).length ≤ 100 := by rw [len_ofL, List.length_take]; omega
  refine of_wd (w_fn rfl ?_)
  show Wd (B__law_gone [some (.str t), some (.int (a : Int)), some (.tup [.str "name"]), none, none, none, none, none, none, none] S) _
  unfold B__law_gone
  rw [w_seq, not_word (y := .non) "word" rfl n1]
  simp only
  rw [w_seq, not_word (y := .non) "end" rfl n2]
  simp only
  rw [w_seq, not_word (y := .non) "one" rfl n3]
  simp only
  rw [w_seq, not_word (y := .non) "number" rfl n4]
  simp only
  have e8 : cutS (ofL run) none (some 8) = ofL (run.take 8) := by
    rw [show (some 8 : Option Int) = some ((8 : Nat) : Int) from rfl, cut_b, toL_ofL]
  rw [w_seq, w_set, w_sl, w_call, w_consA, w_var rfl, w_consA, w_var rfl, w_nil, wd_eq er, w_oN, w_oS, w_c]
  refine ⟨_, rfl, ?_⟩
  rw [wd_eq (sl_ok hr2 _ _), e8]
  simp only [List.set_cons_succ, List.set_cons_zero]
  have ze : ("" : Str) = ofL [] := rfl
  have fin : ∀ m : Nat, m ≤ 8 → Wd ((sRet (fTup (fCons (fOp oAdd (fVar 1) (fVar 4)) (fCons (fCall F__law_is_called (fCons (fSl (fVar 3) (foNone) (foSome (fVar 4))) (fNil))) (fCons (fSl (fVar 3) (foNone) (foSome (fVar 4))) (fNil))))))
      [some (.str t), some (.int (a : Int)), some (.tup [.str "name"]), some (.str (ofL (run.take 8))), some (.int (m : Int)), none, none, none, none, none] S) fun r S1 => ∃ d, (r = .rt d ∨ ((∃ e, r = .nx e) ∧ d = .non)) ∧ Wd (closeV S.length d S1) fun v S' => v = .tup [.int ((a + m : Nat) : Int), .bl (Drw.isNS (ofL (run.take m))), .str (ofL (run.take m))] ∧ S' = S := fun m hm => by
    have em : cutS (ofL (run.take 8)) none (some (m : Int)) = ofL (run.take m) := by
      rw [cut_b, toL_ofL, List.take_take, Nat.min_eq_left hm]
    have hth : Drw.th (.str (ofL (run.take m))) = true := by
      simp only [Drw.th, decide_eq_true_eq]
      rw [len_ofL, List.length_take]
      omega
    have ec : F__law_is_called [.str (ofL (run.take m))] S = some (.bl (Drw.isNS (ofL (run.take m))), S) := Drw.ev_called hS hth
    rw [w_ret, w_tup, w_consA, w_op, w_var rfl, w_var rfl, wd_eq Drw.add_ok, w_consA, w_call, w_consA, w_sl, w_var rfl, w_oN, w_oS, w_var rfl]
    refine ⟨_, rfl, ?_⟩
    rw [wd_eq (sl_ok h8 _ _), em, w_nil, wd_eq ec, w_consA, w_sl, w_var rfl, w_oN, w_oS, w_var rfl]
    refine ⟨_, rfl, ?_⟩
    rw [wd_eq (sl_ok h8 _ _), em, w_nil]
    have e1 : ((a : Int) + (m : Int)) = ((a + m : Nat) : Int) := by omega
    rw [e1]
    exact ⟨s3, _, .inl rfl, wd_of (close3 hS (by simp only [D.blw])) ⟨rfl, rfl⟩⟩
  rw [w_seq, w_set, w_ifE, w_or, w_B, w_op, w_var rfl, w_c, wd_eq eq_str, ze, ofL_beq]
  refine ⟨_, rfl, ?_⟩
  cases run with
  | nil =>
    have d1 : ((([] : List Nat).take 8) == []) = true := rfl
    rw [if_pos d1, if_pos rfl, w_c]
    have f := fin 0 (by omega)
    simpa using f
  | cons c r =>
    have d1 : ¬ ((((c :: r) : List Nat).take 8) == []) = true := by simp
    have hix := ix_ok (S := S) (z := ofL ((c :: r).take 8)) (i := 0) (c := c) h8 (by rw [toL_ofL]; rfl)
    rw [if_neg d1, w_B, w_op, w_op, w_var rfl, w_c, show (D.int 0) = D.int ((0 : Nat) : Int) from rfl, wd_eq hix, w_c, wd_eq Drw.in_str]
    refine ⟨_, rfl, ?_⟩
    have hdc : (if false = true then !decide (c ∈ ("0123456789" : Str).cps.toList) else decide (c ∈ ("0123456789" : Str).cps.toList)) = dig c := rfl
    rw [hdc]
    cases hd : dig c with
    | true =>
      rw [if_pos rfl, w_c]
      have f := fin 0 (by omega)
      simpa [hd] using f
    | false =>
      rw [if_neg Bool.false_ne_true, w_call, w_consA, w_var rfl, w_nil, wd_eq (len_ok h8), len_ofL, List.length_take]
      have f := fin (min 8 (c :: r).length) (by omega)
      rw [Nat.min_comm] at f ⊢
      simpa [hd] using f
end K02

set_option Elab.async false
set_option linter.all false
set_option maxRecDepth 100000
set_option autoImplicit false
set_option maxHeartbeats 4000000
namespace K02
open PySem L2 Mir
variable {S : Store} {C : Addr}
def lw_text : FS := sSet 4 (fOp mJoin (fC (.str "")) (fLc (fRng1 (fOp oAdd (fC (.int 1)) (fCall F__law_take (fCons (fVar 1) (fCons (fC (.int 6)) (fNil)))))) (tgN 12) (tYesF) (fCall F__law_some (fCons (fVar 1) (fCons (fVar 2) (fNil)))) [12]))
def lw_make (C_Scan : Addr) : FS := sPar3 6 7 8 (fCons (fMake C_Scan (F_Scan___init__ C_Scan) (fCons (fVar 4) (fNil))) (fCons (fC (.int 0)) (fCons (fC (.bl true)) (fNil))))
def lw_chk (C_Scan : Addr) : FS := sIf (fB (fOp oNeX (fTup (fCons (fFld C_Scan "text" (fVar 6)) (fCons (fFld C_Scan "at" (fVar 6)) (fCons (fFld C_Scan "good" (fVar 6)) (fNil))))) (fTup (fCons (fVar 4) (fCons (fC (.int 0)) (fCons (fC (.bl true)) (fNil))))))) (sRet (fC (.bl false))) (sNil)
def tn_some : FS := sSet 9 (fLst (fCons (fTup (fCons (fC (.str "word")) (fCons (fCall F__law_some (fCons (fVar 1) (fCons (fLst (fCons (fC (.str "rule")) (fCons (fC (.str " ")) (fCons (fC (.str "of")) (fCons (fC (.str "end")) (fCons (fC (.str "x")) (fNil))))))) (fNil)))) (fNil)))) (fCons (fTup (fCons (fC (.str "end")) (fNil))) (fCons (fTup (fCons (fC (.str "one")) (fCons (fLst (fCons (fC (.str "put")) (fCons (fC (.str "room")) (fCons (fC (.str "x")) (fNil))))) (fNil)))) (fCons (fTup (fCons (fC (.str "name")) (fNil))) (fNil))))))
def tn_ask : FS := sSet 10 (fCall F__law_some (fCons (fVar 1) (fCons (fOp oAdd (fVar 9) (fLst (fCons (fTup (fCons (fC (.str "number")) (fCons (fCall F__law_take (fCons (fVar 1) (fCons (fC (.int 3)) (fNil)))) (fCons (fCall F__law_some (fCons (fVar 1) (fCons (fLst (fCons (fC (.int 12)) (fCons (fC (.int 60)) (fCons (fC (.int 400)) (fNil))))) (fNil)))) (fNil))))) (fNil)))) (fNil))))
def tn_call (C_Scan : Addr) : FS := sIf (fB (fOp oEqX (fOp oIx (fVar 10) (fC (.int 0))) (fC (.str "word")))) (sSet 11 (fMeth C_Scan "take_word" (F_Scan_take_word C_Scan) (fVar 6) (fCons (fOp oIx (fVar 10) (fC (.int 1))) (fNil)))) (sIf (fB (fOp oEqX (fOp oIx (fVar 10) (fC (.int 0))) (fC (.str "end")))) (sSet 11 (fMeth C_Scan "take_end" (F_Scan_take_end C_Scan) (fVar 6) fNil)) (sIf (fB (fOp oEqX (fOp oIx (fVar 10) (fC (.int 0))) (fC (.str "one")))) (sSet 11 (fMeth C_Scan "take_one_of" (F_Scan_take_one_of C_Scan) (fVar 6) (fCons (fOp oIx (fVar 10) (fC (.int 1))) (fNil)))) (sIf (fB (fOp oEqX (fOp oIx (fVar 10) (fC (.int 0))) (fC (.str "number")))) (sSet 11 (fMeth C_Scan "take_number" (F_Scan_take_number C_Scan) (fVar 6) (fCons (fOp oIx (fVar 10) (fC (.int 1))) (fCons (fOp oIx (fVar 10) (fC (.int 2))) (fNil))))) (sSet 11 (fMeth C_Scan "take_name" (F_Scan_take_name C_Scan) (fVar 6) fNil)))))
def tn_law : FS := sIf (fTr (fVar 8)) (sCons (sTup (tgTup (tgCons (tgN 7) (tgCons (tgN 8) (tgCons (tgN 13) (tgNil))))) (fCall F__law_gone (fCons (fVar 4) (fCons (fVar 7) (fCons (fVar 10) (fNil)))))) (sIf (fAnd (fTr (fVar 8)) (fAnd (fB (fOp (oIsN true) (fVar 13) (fC .non))) (fOr (fB (fOp oNeX (fVar 11) (fVar 13))) (fNot (fTr (fCall F__law_alike (fCons (fVar 11) (fCons (fVar 13) (fNil))))))))) (sRet (fC (.bl false))) (sNil))) (sNil)
def tn_chk (C_Scan : Addr) : FS := sIf (fOr (fB (fOp oNeX (fFld C_Scan "at" (fVar 6)) (fVar 7))) (fOr (fNot (fTr (fCall F__law_alike (fCons (fCall bBool (fCons (fFld C_Scan "good" (fVar 6)) (fNil))) (fCons (fVar 8) (fNil)))))) (fB (fOp oNeX (fFld C_Scan "text" (fVar 6)) (fVar 4))))) (sRet (fC (.bl false))) (sNil)
def turn (C_Scan : Addr) : FS := sCons tn_some (sCons tn_ask (sCons (tn_call C_Scan) (sCons tn_law (tn_chk C_Scan))))
def lap (C_Scan : Addr) : FS := sCons lw_text (sCons (lw_make C_Scan) (sCons (lw_chk C_Scan) (sFor (fRng1 (fOp oAdd (fC (.int 1)) (fCall F__law_take (fCons (fVar 1) (fCons (fC (.int 6)) (fNil)))))) (tgN 5) (turn C_Scan))))
theorem lap_eq (C_Scan : Addr) : lap C_Scan = sCons (sSet 4 (fOp mJoin (fC (.str "")) (fLc (fRng1 (fOp oAdd (fC (.int 1)) (fCall F__law_take (fCons (fVar 1) (fCons (fC (.int 6)) (fNil)))))) (tgN 12) (tYesF) (fCall F__law_some (fCons (fVar 1) (fCons (fVar 2) (fNil)))) [12]))) (sCons (sPar3 6 7 8 (fCons (fMake C_Scan (F_Scan___init__ C_Scan) (fCons (fVar 4) (fNil))) (fCons (fC (.int 0)) (fCons (fC (.bl true)) (fNil))))) (sCons (sIf (fB (fOp oNeX (fTup (fCons (fFld C_Scan "text" (fVar 6)) (fCons (fFld C_Scan "at" (fVar 6)) (fCons (fFld C_Scan "good" (fVar 6)) (fNil))))) (fTup (fCons (fVar 4) (fCons (fC (.int 0)) (fCons (fC (.bl true)) (fNil))))))) (sRet (fC (.bl false))) (sNil)) (sFor (fRng1 (fOp oAdd (fC (.int 1)) (fCall F__law_take (fCons (fVar 1) (fCons (fC (.int 6)) (fNil)))))) (tgN 5) (sCons (sSet 9 (fLst (fCons (fTup (fCons (fC (.str "word")) (fCons (fCall F__law_some (fCons (fVar 1) (fCons (fLst (fCons (fC (.str "rule")) (fCons (fC (.str " ")) (fCons (fC (.str "of")) (fCons (fC (.str "end")) (fCons (fC (.str "x")) (fNil))))))) (fNil)))) (fNil)))) (fCons (fTup (fCons (fC (.str "end")) (fNil))) (fCons (fTup (fCons (fC (.str "one")) (fCons (fLst (fCons (fC (.str "put")) (fCons (fC (.str "room")) (fCons (fC (.str "x")) (fNil))))) (fNil)))) (fCons (fTup (fCons (fC (.str "name")) (fNil))) (fNil))))))) (sCons (sSet 10 (fCall F__law_some (fCons (fVar 1) (fCons (fOp oAdd (fVar 9) (fLst (fCons (fTup (fCons (fC (.str "number")) (fCons (fCall F__law_take (fCons (fVar 1) (fCons (fC (.int 3)) (fNil)))) (fCons (fCall F__law_some (fCons (fVar 1) (fCons (fLst (fCons (fC (.int 12)) (fCons (fC (.int 60)) (fCons (fC (.int 400)) (fNil))))) (fNil)))) (fNil))))) (fNil)))) (fNil))))) (sCons (sIf (fB (fOp oEqX (fOp oIx (fVar 10) (fC (.int 0))) (fC (.str "word")))) (sSet 11 (fMeth C_Scan "take_word" (F_Scan_take_word C_Scan) (fVar 6) (fCons (fOp oIx (fVar 10) (fC (.int 1))) (fNil)))) (sIf (fB (fOp oEqX (fOp oIx (fVar 10) (fC (.int 0))) (fC (.str "end")))) (sSet 11 (fMeth C_Scan "take_end" (F_Scan_take_end C_Scan) (fVar 6) fNil)) (sIf (fB (fOp oEqX (fOp oIx (fVar 10) (fC (.int 0))) (fC (.str "one")))) (sSet 11 (fMeth C_Scan "take_one_of" (F_Scan_take_one_of C_Scan) (fVar 6) (fCons (fOp oIx (fVar 10) (fC (.int 1))) (fNil)))) (sIf (fB (fOp oEqX (fOp oIx (fVar 10) (fC (.int 0))) (fC (.str "number")))) (sSet 11 (fMeth C_Scan "take_number" (F_Scan_take_number C_Scan) (fVar 6) (fCons (fOp oIx (fVar 10) (fC (.int 1))) (fCons (fOp oIx (fVar 10) (fC (.int 2))) (fNil))))) (sSet 11 (fMeth C_Scan "take_name" (F_Scan_take_name C_Scan) (fVar 6) fNil)))))) (sCons (sIf (fTr (fVar 8)) (sCons (sTup (tgTup (tgCons (tgN 7) (tgCons (tgN 8) (tgCons (tgN 13) (tgNil))))) (fCall F__law_gone (fCons (fVar 4) (fCons (fVar 7) (fCons (fVar 10) (fNil)))))) (sIf (fAnd (fTr (fVar 8)) (fAnd (fB (fOp (oIsN true) (fVar 13) (fC .non))) (fOr (fB (fOp oNeX (fVar 11) (fVar 13))) (fNot (fTr (fCall F__law_alike (fCons (fVar 11) (fCons (fVar 13) (fNil))))))))) (sRet (fC (.bl false))) (sNil))) (sNil)) (sIf (fOr (fB (fOp oNeX (fFld C_Scan "at" (fVar 6)) (fVar 7))) (fOr (fNot (fTr (fCall F__law_alike (fCons (fCall bBool (fCons (fFld C_Scan "good" (fVar 6)) (fNil))) (fCons (fVar 8) (fNil)))))) (fB (fOp oNeX (fFld C_Scan "text" (fVar 6)) (fVar 4))))) (sRet (fC (.bl false))) (sNil))))))))) := rfl
theorem law_eq (C_Scan : Addr) : B_law C_Scan = sCons (sSet 1 (fCall F__law_bag (fCons (fVar 0) (fNil)))) (sCons (sSet 2 (fLst (fCons (fC (.str "rule")) (fCons (fC (.str "room")) (fCons (fC (.str "r1")) (fCons (fC (.str "abcdefgh")) (fCons (fC (.str "abcdefghi")) (fCons (fC (.str "of")) (fCons (fC (.str "7")) (fCons (fC (.str "60")) (fCons (fC (.str "61")) (fCons (fC (.str "0")) (fCons (fC (.str "012")) (fCons (fC (.str " ")) (fCons (fC (.str " ")) (fCons (fC (.str "x")) (fCons (fC (.str "-")) (fCons (fC (.str "end")) (fCons (fC (.str "")) (fCons (fC (.str "slots")) (fCons (fC (.str "none")) (fCons (fC (.str "400")) (fNil))))))))))))))))))))))) (sCons (sFor (fRng1 (fC (.int 16))) (tgN 3) (lap C_Scan)) (sRet (fC (.bl true))))) := rfl
/-! ### texts that are shown -/
def okT (z : Str) : Prop := z.length ≤ 100 ∧ z.cps.toList.all (fun c => decide (c < 128)) = true
theorem okT.strOk {z : Str} (h : okT z) : PyData.strOk z = true := by
  unfold PyData.strOk
  rw [← Array.all_toList]
  refine List.all_eq_true.mpr fun c hc => ?_
  have := List.all_eq_true.mp h.2 c hc
  rw [decide_eq_true_eq] at this ⊢
  omega
theorem okT.shaped {z : Str} (h : okT z) : SeqAt.shaped (.str z) = true := by
  simp [SeqAt.shaped, PyData.canLay0, h.strOk, PyData.depth]
theorem alike2 {d : D} {p : PyData} (hS : SOk S) (hd : (rdS S d).py = some p) (h1 : (p.showable && !p.hasDict && decide (p.depth ≤ 60) && decide (p.shown.length ≤ sizeLine)) = true) (h2 : SeqAt.shaped p = true) (h3 : PyData.eqv p p = true) : F__law_alike [d, d] S = some (.bl true, S) := by
  have e1 : bRepr [d] S = some (.str p.shown, S) := by
    unfold bRepr
    simp only [hd, Option.bind_some]
    rw [if_pos h1]
  have e2 : oEqX (.str p.shown) (.str p.shown) S = some (.bl true, S) := by
    simp [oEqX, oEqS]
  have e3 : oEqX d d S = some (.bl true, S) := by
    have : oEq d d S = some (.bl true, S) := by
      unfold oEq oEqN
      simp only [hd, h2, h3, Bool.and_self, if_true]
      rfl
    have e0 : oEqS false d d S = none ∨ oEqS false d d S = some (.bl true, S) := by
      cases d <;> simp [oEqS]
    unfold oEqX
    rw [this]
    rcases e0 with e0 | e0 <;> rw [e0] <;> rfl
  simp [F__law_alike, B__law_alike, fnC, sRet, sCons, sIf, sSet, sNil, fAndV, fOrV, fCall, fCons, fVar, fC, fNil, bnd, asB, fNotV, fOp, fUn, fNot, fAnd, fOr, fB, fTr, fChain, fIf, fTup, fLst, fSl, foNone, foSome, e1, e2, e3, closeV_bl hS]
theorem alike_bl {b : Bool} (hS : SOk S) : F__law_alike [.bl b, .bl b] S = some (.bl true, S) := alike2 (p := .bool b) hS rfl (by cases b <;> decide +kernel) (by cases b <;> decide +kernel) (by cases b <;> rfl)
theorem alike_str {z : Str} (hS : SOk S) (h : okT z) : F__law_alike [.str z, .str z] S = some (.bl true, S) := by
  have hl : (PySem.reprText z).length ≤ 10 * z.length + 2 := PySem.StrLaws.reprText_len z fun c hc => by
    have := List.all_eq_true.mp h.2 c hc
    rw [decide_eq_true_eq] at this
    have : (128 : Nat) ≤ 16 ^ 8 := by decide
    omega
  have h1 := h.1
  have sl : 10000 ≤ sizeLine := by decide
  have e : (PyData.str z).shown.length ≤ sizeLine := by
    rw [PyData.shown]
    omega
  exact alike2 (p := .str z) hS rfl (Bool.and_eq_true_iff.mpr ⟨by simp [PyData.showable, PyData.hasDict, PyData.depth], decide_eq_true e⟩) h.shaped (by simp [PyData.eqv])
theorem alike_int {v : Nat} (hS : SOk S) (h : v < 1000) : F__law_alike [.int (v : Int), .int (v : Int)] S = some (.bl true, S) := by
  have h0 : (v : Int).natAbs.log2 < 1920 := by
    have h1 : (v : Int).natAbs = v := by omega
    rw [h1]
    have : v.log2 ≤ v := Nat.log2_le_self v
    omega
  have hl := len_hi (hi := v)
  have h3 := numL_len3 h
  have sl : 10000 ≤ sizeLine := by decide
  have e : (PyData.int (v : Int)).shown.length ≤ sizeLine := by
    rw [PyData.shown]
    have hl2 : (Str.ofString (toString (v : Int))).length ≤ sizeLine := by
      rw [hl]
      omega
    exact hl2
  exact alike2 (p := .int (v : Int)) hS rfl (Bool.and_eq_true_iff.mpr ⟨by simp only [PyData.showable, PyData.hasDict, PyData.depth, h0]; rfl, decide_eq_true e⟩) (by simp [SeqAt.shaped, PyData.canLay0, PyData.depth]) (by simp [PyData.eqv])
/-! ### the parts of a turn -/
def AlikeOk (d : D) : Prop := ∀ S : Store, SOk S → F__law_alike [d, d] S = some (.bl true, S) ∧ oNeX d d S = some (.bl false, S) ∧ oIsN true d .non S = some (.bl true, S)
theorem alikeOk_str {z : Str} (h : okT z) : AlikeOk (.str z) := fun S hS => ⟨alike_str hS h, by rw [ne_str]; simp, rfl⟩
theorem ne_int {i j : Int} : oNeX (.int i) (.int j) S = some (.bl (!(i == j)), S) := rfl
theorem alikeOk_int {v : Nat} (h : v < 1000) : AlikeOk (.int (v : Int)) := fun S hS => ⟨alike_int hS h, by rw [ne_int]; simp, rfl⟩
section
variable {sc pcsD x3 x5 ask told due x13 x12 x9 x11 : Option D} {t : Str} {a n : Nat} {g : Bool}
theorem law_part {S : Store} {ask told due : D} {a δ : Nat} {fits : Bool} (hS : SOk S)
    (hlaw : g = true → F__law_gone [.str t, .int (a : Int), ask] S = some (.tup [.int ((a + δ : Nat) : Int), .bl fits, due], S)) (hdue : g = true → fits = true → due = .non ∨ (due = told ∧ AlikeOk told)) :
    Wd (tn_law [sc, some (.loc 0), pcsD, x3, some (.str t), x5, some (.loc n), some (.int (a : Int)), some (.bl g), x9, some ask, some told, x12, x13] S)
      fun r S' => S' = S ∧ ∃ y, r = .nx [sc, some (.loc 0), pcsD, x3, some (.str t), x5, some (.loc n), some (.int ((a + if g then δ else 0 : Nat) : Int)), some (.bl (g && fits)), x9, some ask, some told, x12, y] := by
  unfold tn_law
  rw [w_if, w_tr, w_var rfl]
  refine ⟨g, rfl, ?_⟩
  cases g with
  | false =>
    rw [if_neg Bool.false_ne_true, w_sN]
    exact ⟨rfl, x13, rfl⟩
  | true =>
    rw [if_pos rfl, w_seq]
    unfold sTup
    rw [wd_bnd, w_call, w_consA, w_var rfl, w_consA, w_var rfl, w_consA, w_var rfl, w_nil, wd_eq (hlaw rfl)]
    rw [show tgTup (tgCons (tgN 7) (tgCons (tgN 8) (tgCons (tgN 13) (tgNil)))) (.tup [.int ((a + δ : Nat) : Int), .bl fits, due]) [sc, some (.loc 0), pcsD, x3, some (.str t), x5, some (.loc n), some (.int (a : Int)), some (.bl true), x9, some ask, some told, x12, x13] S =
      some ([sc, some (.loc 0), pcsD, x3, some (.str t), x5, some (.loc n), some (.int ((a + δ : Nat) : Int)), some (.bl fits), x9, some ask, some told, x12, some due], S) from rfl, bnd_some]
    refine wd_some.mpr ?_
    simp only [if_true, Bool.true_and]
    rw [w_if, w_and, w_tr, w_var rfl]
    refine ⟨fits, rfl, ?_⟩
    cases fits with
    | false =>
      simp only [Bool.false_eq_true, if_false]
      rw [w_sN]
      exact ⟨rfl, some due, rfl⟩
    | true =>
      rw [if_pos rfl, w_and, w_B, w_op, w_var rfl, w_c]
      rcases hdue rfl rfl with rfl | ⟨rfl, hok⟩
      · refine wd_of (a := .bl false) (S := S) rfl ?_
        refine ⟨_, rfl, ?_⟩
        simp only [Bool.false_eq_true, if_false]
        rw [w_sN]
        exact ⟨rfl, _, rfl⟩
      · obtain ⟨h1, h2, h3⟩ := hok S hS
        rw [wd_eq h3]
        refine ⟨_, rfl, ?_⟩
        rw [if_pos rfl, w_or, w_B, w_op, w_var rfl, w_var rfl, wd_eq h2]
        refine ⟨_, rfl, ?_⟩
        rw [if_neg Bool.false_ne_true, w_not, w_tr, w_call, w_consA, w_var rfl, w_consA, w_var rfl, w_nil, wd_eq h1]
        refine ⟨_, rfl, ?_⟩
        simp only [Bool.not_true, Bool.false_eq_true, if_false]
        rw [w_sN]
        exact ⟨rfl, _, rfl⟩
theorem chk_part {S : Store} (hS : SOk S) (ht : okT t) (h : S[n]? = some (Sc C t a g)) :
    Wd (tn_chk C [sc, some (.loc 0), pcsD, x3, some (.str t), x5, some (.loc n), some (.int (a : Int)), some (.bl g), x9, ask, told, x12, x13] S)
      fun r S' => S' = S ∧ r = .nx [sc, some (.loc 0), pcsD, x3, some (.str t), x5, some (.loc n), some (.int (a : Int)), some (.bl g), x9, ask, told, x12, x13] := by
  unfold tn_chk
  rw [w_if, w_or, w_B, w_op, w_at h rfl, w_var rfl, wd_eq ne_int]
  refine ⟨_, rfl, ?_⟩
  rw [show (!((a : Int) == (a : Int))) = false by simp, if_neg Bool.false_ne_true, w_or, w_not, w_tr, w_call, w_consA, w_call, w_consA, w_good h rfl, w_nil]
  refine wd_of (a := .bl g) (S := S) rfl ?_
  rw [w_consA, w_var rfl, w_nil, wd_eq (alike_bl hS)]
  refine ⟨_, rfl, ?_⟩
  rw [Bool.not_true, if_neg Bool.false_ne_true, w_B, w_op, w_text h rfl, w_var rfl, wd_eq ne_str]
  refine ⟨_, rfl, ?_⟩
  rw [show (!(t == t)) = false by simp, if_neg Bool.false_ne_true, w_sN]
  exact ⟨rfl, rfl⟩
end
end K02

set_option Elab.async false
set_option linter.all false
set_option maxRecDepth 100000
set_option autoImplicit false
set_option maxHeartbeats 4000000
namespace K02
open PySem L2 Mir
variable {S : Store} {C : Addr}
/-! ### what is asked -/
inductive Ask where
  | word (w : Str) | fin | one | number (lo hi : Nat) | name
def ows : List Str := ["put", "room", "x"]
def Ask.d : Ask → D
  | .word w => .tup [.str "word", .str w]
  | .fin => .tup [.str "end"]
  | .one => .tup [.str "one", .lst (strsD ows)]
  | .number lo hi => .tup [.str "number", .int (lo : Int), .int (hi : Int)]
  | .name => .tup [.str "name"]
def Ask.ok : Ask → Prop
  | .word w => w.length ≤ 50
  | .number lo hi => lo ≤ 2 ∧ (hi = 12 ∨ hi = 60 ∨ hi = 400)
  | _ => True
theorem if10 {x : Str} {env : Mir.Env} {r : List D} {b c : FS} {QS : Rt → Store → Prop} (k : Str) (e : env[10]? = some (some (.tup (.str x :: r)))) : Wd (sIf (fB (fOp oEqX (fOp oIx (fVar 10) (fC (.int 0))) (fC (.str k)))) b c env S) QS ↔ if (x == k) = true then Wd (b env S) QS else Wd (c env S) QS := by
  rw [w_if, w_B, w_op, w_op, w_var e, w_c, wd_eq ix0, w_c, wd_eq eq_str]
  constructor
  · rintro ⟨c, e1, q⟩
    cases e1
    exact q
  · intro q
    exact ⟨_, rfl, q⟩
theorem sc_if {t : Str} {a δ : Nat} {g b : Bool} : (if g then Sc C t (a + δ) b else Sc C t a false) = Sc C t (a + if g then δ else 0) (g && b) := by cases g <;> rfl
/-- how far, whether it fits, what is due -/
def δ (l : List Nat) : Ask → Nat
  | .word w => cp l w.cps.toList
  | .fin => 0
  | .one => cp l (ows.getD (bestOf l ows) "").cps.toList
  | .number lo hi => far lo hi l
  | .name => nameM l
def fitsA (l : List Nat) : Ask → Bool
  | .word w => decide (cp l w.cps.toList = w.length)
  | .fin => l.isEmpty
  | .one => decide (cp l (ows.getD (bestOf l ows) "").cps.toList = (ows.getD (bestOf l ows) "").length)
  | .number lo hi => fitsN lo hi l
  | .name => Drw.isNS (nameZ l)
def dueA (l : List Nat) : Ask → D
  | .word _ => .non
  | .fin => .non
  | .one => .str (ows.getD (bestOf l ows) "")
  | .number lo hi => numD (fitsN lo hi l) (valOf lo hi l)
  | .name => .str (nameZ l)
theorem ows_ne : ows ≠ [] := by decide
theorem ows_len : ∀ w ∈ ows, w.length ≤ 50 := by decide +kernel
theorem ows_ok : ∀ w ∈ ows, okT w := by
  intro w hw
  have : ∀ w ∈ ows, w.length ≤ 100 ∧ w.cps.toList.all (fun c => decide (c < 128)) = true := by decide +kernel
  exact this w hw
theorem ows_best (l : List Nat) : ows[bestOf l ows]? = some (ows.getD (bestOf l ows) "") := by
  have := best_lt (l := l) ows_ne
  rw [List.getD_eq_getElem?_getD, List.getElem?_eq_getElem this]
  rfl
theorem drop_nil {l : List Nat} {a : Nat} (h : a ≤ l.length) : (l.drop a).isEmpty = decide (a = l.length) := by
  rw [Bool.eq_iff_iff, List.isEmpty_iff, decide_eq_true_eq, List.drop_eq_nil_iff]
  omega
theorem law_ask {t : Str} {a : Nat} (q : Ask) (hq : q.ok) (hS : SOk S) (ht : t.length ≤ 100) (ha : a ≤ t.cps.toList.length) :
    F__law_gone [.str t, .int (a : Int), q.d] S = some (.tup [.int ((a + δ (t.cps.toList.drop a) q : Nat) : Int), .bl (fitsA (t.cps.toList.drop a) q), dueA (t.cps.toList.drop a) q], S) := by
  cases q with
  | word w => exact ask_word hS ht hq
  | fin =>
    have := ask_end (a := a) hS ht
    rw [← drop_nil ha] at this
    exact this
  | one => exact ask_one hS ht ows_len (by decide) ows_ne (ows_best _)
  | number lo hi => exact ask_number hS ht ha hq.1 hq.2
  | name => exact ask_name hS ht
theorem δ_le (l : List Nat) (q : Ask) : δ l q ≤ l.length := by
  cases q with
  | word w => exact (cp_le _ _).2
  | fin => exact Nat.zero_le _
  | one => exact (cp_le _ _).2
  | number lo hi => exact far_le.1
  | name =>
    show nameM l ≤ l.length
    have := run_len l
    unfold nameM
    split <;> omega
/-! names: the scan's reading is the law's -/
theorem al_low {c : Nat} (h : al c = true) (h2 : dig c = false) : decide (c ∈ Drw.low) = true := by
  have e : Drw.alnum = Drw.low ++ ("0123456789" : Str).cps.toList := by decide +kernel
  unfold al at h
  rw [decide_eq_true_eq, e, List.mem_append] at h
  unfold dig at h2
  rw [decide_eq_false_iff_not] at h2
  exact decide_eq_true (h.resolve_right h2)
theorem name_fits (l : List Nat) : Drw.isNS (nameZ l) = (begins l && !inV (V.str (name8 l)) (v_RESERVED.map V.str)) := by
  unfold nameZ nameM
  cases hb : begins l with
  | false => rfl
  | true =>
    have ez : (runOf l).take (if true = true then min (runOf l).length 8 else 0) = (runOf l).take 8 := by
      rw [if_pos rfl]
      by_cases h : (runOf l).length ≤ 8
      · rw [Nat.min_eq_left h, List.take_of_length_le (Nat.le_refl _), List.take_of_length_le h]
      · rw [Nat.min_eq_right (by omega)]
    rw [ez, Bool.true_and]
    show Drw.isNS (name8 l) = _
    unfold Drw.isNS
    unfold begins at hb
    cases hr : runOf l with
    | nil => rw [hr] at hb; cases hb
    | cons c r =>
      rw [hr] at hb
      have hall : (runOf l).all al = true := List.all_takeWhile (p := al) (l := l)
      have hc : al c = true := by rw [hr, List.all_cons, Bool.and_eq_true] at hall; exact hall.1
      have e8 : (name8 l).cps.toList = c :: r.take 7 := by
        unfold name8
        rw [toL_ofL, hr]
        rfl
      have hl : (name8 l).length = ((runOf l).take 8).length := len_ofL _
      have h1 : decide (1 ≤ (name8 l).length) = true := decide_eq_true (by rw [hl, hr]; simp)
      have h2 : decide ((name8 l).length ≤ 8) = true := decide_eq_true (by rw [hl, List.length_take]; omega)
      have h3 : (name8 l).cps.toList.all (fun c => decide (c ∈ Drw.alnum)) = true := by
        unfold name8
        rw [toL_ofL]
        refine List.all_eq_true.mpr fun x hx => ?_
        exact List.all_eq_true.mp hall x (List.mem_of_mem_take hx)
      rw [h1, h2, h3, e8]
      have hd : dig c = false := by simpa using hb
      simp only [al_low hc hd, Bool.and_self, Bool.true_and]
      rfl
theorem name_ok8 (l : List Nat) : okT (nameZ l) := by
  have hall : (runOf l).all al = true := List.all_takeWhile (p := al) (l := l)
  refine ⟨?_, ?_⟩
  · unfold nameZ
    rw [len_ofL, List.length_take]
    have : nameM l ≤ 8 := by
      unfold nameM
      split <;> omega
    omega
  · unfold nameZ
    rw [toL_ofL]
    refine List.all_eq_true.mpr fun x hx => ?_
    have := List.all_eq_true.mp hall x (List.mem_of_mem_take hx)
    have hal : ∀ c ∈ Drw.alnum, c < 128 := by decide +kernel
    unfold al at this
    rw [decide_eq_true_eq] at this
    exact decide_eq_true (hal x this)
section
variable {sc pcsD x3 x5 x9 x11 x12 x13 : Option D} {t : Str} {a n : Nat} {g : Bool}
def envT (sc pcsD x3 : Option D) (t : Str) (x5 : Option D) (n a : Nat) (g : Bool) (x9 : Option D) (q : Ask) (x11 x12 x13 : Option D) : Mir.Env := [sc, some (.loc 0), pcsD, x3, some (.str t), x5, some (.loc n), some (.int (a : Int)), some (.bl g), x9, some q.d, x11, x12, x13]
theorem no_te : ("take_end" : Str) ∉ (["text", "at", "good"] : List Str) := by decide
theorem no_to : ("take_one_of" : Str) ∉ (["text", "at", "good"] : List Str) := by decide
theorem no_tn : ("take_number" : Str) ∉ (["text", "at", "good"] : List Str) := by decide
theorem no_ta : ("take_name" : Str) ∉ (["text", "at", "good"] : List Str) := by decide
theorem call_part {S : Store} (q : Ask) (hq : q.ok) (hS : SOk S) (ht : t.length ≤ 100) (ha : a ≤ t.cps.toList.length) (h : S[n]? = some (Sc C t a g)) :
    Wd (tn_call C (envT sc pcsD x3 t x5 n a g x9 q x11 x12 x13) S) fun r S' => S' = S.set n (Sc C t (a + if g then δ (t.cps.toList.drop a) q else 0) (g && fitsA (t.cps.toList.drop a) q)) ∧
      ∃ told, r = .nx (envT sc pcsD x3 t x5 n a g x9 q (some told) x12 x13) ∧ (g = true → fitsA (t.cps.toList.drop a) q = true → dueA (t.cps.toList.drop a) q = .non ∨ (dueA (t.cps.toList.drop a) q = told ∧ AlikeOk told)) := by
  unfold tn_call envT
  cases q with
  | word w =>
    rw [if10 "word" (x := "word") (r := [.str w]) rfl, if_pos eq_word, w_set, w_meth (p := .loc n) rfl (ins_sc h) no_tw, w_consA, w_op, w_var rfl, w_c]
    refine wd_of ix1 ?_
    rw [w_nil, wd_eq (ev_word hS h ht), sc_if]
    exact ⟨rfl, _, rfl, fun _ _ => .inl rfl⟩
  | fin =>
    rw [if10 "word" (x := "end") (r := []) rfl, if_neg (by decide +kernel), if10 "end" (x := "end") (r := []) rfl, if_pos eq_word, w_set, w_meth (p := .loc n) rfl (ins_sc h) no_te, w_nil, wd_eq (ev_end hS h ht), ← drop_nil ha]
    refine ⟨?_, _, rfl, fun _ _ => .inl rfl⟩
    show S.set n (Sc C t a _) = S.set n (Sc C t (a + if g then 0 else 0) _)
    rw [show (if g then 0 else 0) = 0 by cases g <;> rfl]
    rfl
  | one =>
    rw [if10 "word" (x := "one") (r := [.lst (strsD ows)]) rfl, if_neg (by decide +kernel), if10 "end" (x := "one") (r := [.lst (strsD ows)]) rfl, if_neg (by decide +kernel), if10 "one" (x := "one") (r := [.lst (strsD ows)]) rfl, if_pos eq_word, w_set, w_meth (p := .loc n) rfl (ins_sc h) no_to, w_consA, w_op, w_var rfl, w_c]
    refine wd_of ix1 ?_
    rw [w_nil, wd_eq (ev_one hS h ht (fun w hw => Nat.le_trans (ows_len w hw) (by omega)) (by decide) ows_ne (ows_best _)), sc_if]
    exact ⟨rfl, _, rfl, fun _ _ => .inr ⟨rfl, alikeOk_str (ows_ok _ (List.mem_of_getElem? (ows_best _)))⟩⟩
  | number lo hi =>
    rw [if10 "word" (x := "number") (r := [.int (lo : Int), .int (hi : Int)]) rfl, if_neg (by decide +kernel), if10 "end" (x := "number") (r := [.int (lo : Int), .int (hi : Int)]) rfl, if_neg (by decide +kernel), if10 "one" (x := "number") (r := [.int (lo : Int), .int (hi : Int)]) rfl, if_neg (by decide +kernel), if10 "number" (x := "number") (r := [.int (lo : Int), .int (hi : Int)]) rfl, if_pos eq_word, w_set, w_meth (p := .loc n) rfl (ins_sc h) no_tn, w_consA, w_op, w_var rfl, w_c]
    refine wd_of ix1 ?_
    rw [w_consA, w_op, w_var rfl, w_c]
    refine wd_of ix2 ?_
    have ev : valOf lo hi (runOf (t.cps.toList.drop a)) = valOf lo hi (t.cps.toList.drop a) := by
      unfold valOf
      rw [far_run, take_run]
    have ef : fitsN lo hi (runOf (t.cps.toList.drop a)) = fitsN lo hi (t.cps.toList.drop a) := by
      unfold fitsN
      rw [far_run, ev]
    rw [w_nil, wd_eq (ev_number hS h ht hq.1 hq.2), ef, ev, far_run]
    refine ⟨rfl, _, rfl, fun hg hf => .inr ?_⟩
    have hf : fitsN lo hi (t.cps.toList.drop a) = true := hf
    have hp : 0 < far lo hi (t.cps.toList.drop a) := by
      have hf2 := hf
      unfold fitsN at hf2
      rw [Bool.and_eq_true, decide_eq_true_eq] at hf2
      exact hf2.1
    have hv : valOf lo hi (t.cps.toList.drop a) < 1000 := dval3 (hi := hi) hq.1 (by have := hq.2; omega) (far_dig hp).2 (far_yes (Nat.le_refl _) hp)
    rw [hg, hf]
    refine ⟨?_, alikeOk_int hv⟩
    show numD (fitsN lo hi _) _ = _
    rw [hf]
    rfl
  | name =>
    rw [if10 "word" (x := "name") (r := []) rfl, if_neg (by decide +kernel), if10 "end" (x := "name") (r := []) rfl, if_neg (by decide +kernel), if10 "one" (x := "name") (r := []) rfl, if_neg (by decide +kernel), if10 "number" (x := "name") (r := []) rfl, if_neg (by decide +kernel), w_set, w_meth (p := .loc n) rfl (ins_sc h) no_ta, w_nil]
    have ev := ev_nameS hS h ht
    have nf := name_fits (t.cps.toList.drop a)
    show Wd (F_Scan_take_name C [.loc n] S) _
    cases hg : (g && begins (t.cps.toList.drop a)) with
    | true =>
      rw [hg, if_pos rfl] at ev
      rw [Bool.and_eq_true] at hg
      obtain ⟨rfl, hb⟩ := hg
      rw [hb, Bool.true_and] at nf
      refine wd_of ev ⟨?_, _, rfl, fun _ _ => .inr ⟨?_, ?_⟩⟩
      · show S.set n _ = S.set n (Sc C t (a + nameM _) (true && Drw.isNS _))
        rw [nf, Bool.true_and]
        unfold nameM
        rw [hb, if_pos rfl]
      · show D.str (nameZ _) = D.str (name8 _)
        unfold nameZ nameM name8
        rw [hb, if_pos rfl]
        congr 2
        by_cases h8 : (runOf (t.cps.toList.drop a)).length ≤ 8
        · rw [Nat.min_eq_left h8, List.take_of_length_le (Nat.le_refl _), List.take_of_length_le h8]
        · rw [Nat.min_eq_right (by omega)]
      · have e : name8 (t.cps.toList.drop a) = nameZ (t.cps.toList.drop a) := by
          unfold nameZ nameM name8
          rw [hb, if_pos rfl]
          congr 1
          by_cases h8 : (runOf (t.cps.toList.drop a)).length ≤ 8
          · rw [Nat.min_eq_left h8, List.take_of_length_le (Nat.le_refl _), List.take_of_length_le h8]
          · rw [Nat.min_eq_right (by omega)]
        rw [e]
        exact alikeOk_str (name_ok8 _)
    | false =>
      rw [hg, if_neg Bool.false_ne_true] at ev
      have hno : (g && Drw.isNS (nameZ (t.cps.toList.drop a))) = false := by
        rw [nf, ← Bool.and_assoc, hg, Bool.false_and]
      refine wd_of ev ⟨?_, _, rfl, fun h1 h2 => ?_⟩
      · show S.set n _ = S.set n (Sc C t (a + if g then nameM _ else 0) (g && Drw.isNS _))
        rw [hno]
        cases g with
        | false => rfl
        | true =>
          have hb : begins (t.cps.toList.drop a) = false := by simpa using hg
          unfold nameM
          rw [hb]
          rfl
      · have h2 : Drw.isNS (nameZ (t.cps.toList.drop a)) = true := h2
        rw [h1, h2] at hno
        cases hno
end
end K02

set_option Elab.async false
set_option linter.all false
set_option maxRecDepth 100000
set_option autoImplicit false
set_option maxHeartbeats 200000
namespace K02
open PySem L2 Mir
variable {S : Store} {C : Addr}
theorem take_drw : F__law_take = Drw.F__law_take := rfl
theorem some_drw : F__law_some = Drw.F__law_some := rfl
theorem bag_drw : F__law_bag = Drw.F__law_bag := rfl
theorem tk_wd {o : O} {r : Store} {m : Int} {Q : D → Store → Prop} (hB : Drw.Bag o) (hS : SOk (o :: r)) (h0 : 0 < m) (h1 : m < 1000000000) (k : ∀ (v : Nat) o', (v : Int) < m → Drw.Bag o' → Q (.int (v : Int)) (o' :: r)) : Wd (F__law_take [.loc 0, .int m] (o :: r)) Q := by
  obtain ⟨v, o', v0, v1, hB', e⟩ := Drw.take_ok hB hS h0 h1
  obtain ⟨i, rfl⟩ : ∃ i : Nat, v = (i : Int) := ⟨v.toNat, by omega⟩
  rw [take_drw]
  exact ⟨_, _, e, k i o' v1 hB'⟩
theorem sm_wd {o : O} {r : Store} {xs : List D} {Q : D → Store → Prop} (hB : Drw.Bag o) (hS : SOk (o :: r)) (h0 : xs ≠ []) (h1 : xs.length ≤ 1000) (hx : ∀ y ∈ xs, y.blw 0 = true) (k : ∀ y o', y ∈ xs → Drw.Bag o' → Q y (o' :: r)) : Wd (F__law_some [.loc 0, .lst xs] (o :: r)) Q := by
  obtain ⟨y, o', hy, hB', e⟩ := Drw.some_ok hB hS h0 h1 hx
  rw [some_drw]
  exact ⟨_, _, e, k y o' hy hB'⟩
theorem head_ok {o o' : O} {r : Store} (hS : SOk (o :: r)) (hB : Drw.Bag o') : SOk (o' :: r) := hS.head hB.blw
/-! ### the text -/
def pcs : List Str := ["rule", "room", "r1", "abcdefgh", "abcdefghi", "of", "7", "60", "61", "0", "012", " ", " ", "x", "-", "end", "", "slots", "none", "400"]
theorem pcs_ok : ∀ s ∈ pcs, s.length ≤ 9 ∧ s.cps.toList.all (fun c => decide (c < 128)) = true := by decide +kernel
theorem join_list : ∀ ss : List Str, (Str.join "" ss).cps.toList = (ss.map fun s => s.cps.toList).flatten
  | [] => rfl
  | [x] => by simp [Str.join]
  | x :: y :: rest => by
    have ih := join_list (y :: rest)
    show ((x ++ ("" : Str)) ++ Str.join "" (y :: rest)).cps.toList = _
    have e : ∀ a b : Str, (a ++ b).cps.toList = a.cps.toList ++ b.cps.toList := fun a b => by
      show (a.cps ++ b.cps).toList = _
      simp
    rw [e, e, ih, List.map_cons, List.flatten_cons, show ("" : Str).cps.toList = [] from rfl, List.append_nil]
    rfl
theorem join_okT {ss : List Str} (h : ∀ s ∈ ss, s.length ≤ 9 ∧ s.cps.toList.all (fun c => decide (c < 128)) = true) (hl : ss.length ≤ 6) : okT (Txt.join "" ss) ∧ (ss.map (·.length)).sum ≤ 54 := by
  have e : (Txt.join "" ss).cps.toList = (ss.map fun s => s.cps.toList).flatten := by
    show (Builtin.Str.glued "" ss).cps.toList = _
    rw [StrLaws.glued_eq_join]
    exact join_list ss
  have hs : ∀ (n : Nat) (ss : List Str), ss.length ≤ n → (∀ s ∈ ss, s.length ≤ 9) → (ss.map (·.length)).sum ≤ 9 * n := by
    intro n
    induction n with
    | zero => intro ss h1 h2; have : ss = [] := List.length_eq_zero_iff.mp (by omega); subst this; simp
    | succ n ih =>
      intro ss h1 h2
      cases ss with
      | nil => simp
      | cons s ss =>
        have := ih ss (by simpa using h1) fun x hx => h2 x (List.mem_cons_of_mem _ hx)
        have := h2 s List.mem_cons_self
        simp only [List.map_cons, List.sum_cons]
        omega
  have hs := hs 6 ss hl fun s hs => (h s hs).1
  refine ⟨⟨?_, ?_⟩, hs⟩
  · show (Txt.join "" ss).cps.toList.length ≤ 100
    rw [e, List.length_flatten, List.map_map]
    have : (ss.map (List.length ∘ fun s => s.cps.toList)).sum = (ss.map (·.length)).sum := rfl
    rw [this]
    omega
  · rw [e]
    refine List.all_eq_true.mpr fun c hc => ?_
    obtain ⟨l, hl, hcl⟩ := List.mem_flatten.mp hc
    obtain ⟨s, hs, rfl⟩ := List.mem_map.mp hl
    exact List.all_eq_true.mp (h s hs).2 c hcl
def isPc (d : D) : Prop := ∃ s ∈ pcs, d = .str s
theorem pcs_strs : ∀ {ys : List D}, (∀ y ∈ ys, isPc y) → ∃ ss : List Str, asStrs ys = some ss ∧ ss.length = ys.length ∧ ∀ s ∈ ss, s ∈ pcs
  | [], _ => ⟨[], rfl, rfl, nofun⟩
  | y :: ys, h => by
    obtain ⟨ss, e1, e2, e3⟩ := pcs_strs (ys := ys) fun z hz => h z (List.mem_cons_of_mem _ hz)
    obtain ⟨s, hs, rfl⟩ := h y List.mem_cons_self
    refine ⟨s :: ss, by show (asStrs ys).map _ = _; rw [e1]; rfl, by simp [e2], fun x hx => ?_⟩
    rcases List.mem_cons.mp hx with rfl | hx
    · exact hs
    · exact e3 x hx
section
variable {sc x3 x4 x5 x6 x7 x8 x9 x10 x11 x12 x13 : Option D} {o : O} {r : Store}
theorem text_ok {QS : Rt → Store → Prop} (hB : Drw.Bag o) (hS : SOk (o :: r)) (k : ∀ t o', okT t → Drw.Bag o' → QS (.nx [sc, some (.loc 0), some (.lst (strsD pcs)), x3, some (.str t), x5, x6, x7, x8, x9, x10, x11, x12, x13]) (o' :: r)) :
    Wd (lw_text [sc, some (.loc 0), some (.lst (strsD pcs)), x3, x4, x5, x6, x7, x8, x9, x10, x11, x12, x13] (o :: r)) QS := by
  have sl : 100 ≤ sizeLine := Drw.sizeLine_le
  obtain ⟨v, o1, v0, v1, hB1, e⟩ := Drw.take_ok (m := 6) hB hS (by omega) (by omega)
  rw [← take_drw] at e
  have hi : fRng1 (fOp oAdd (fC (.int 1)) (fCall F__law_take (fCons (fVar 1) (fCons (fC (.int 6)) (fNil))))) [sc, some (.loc 0), some (.lst (strsD pcs)), x3, x4, x5, x6, x7, x8, x9, x10, x11, x12, x13] (o :: r) = some (rng 0 (1 + v), o1 :: r) := by
    refine of_wd ?_
    rw [w_rng1, w_op, w_c, w_call, w_consA, w_var rfl, w_consA, w_c, w_nil, wd_eq e, wd_eq Drw.add_ok]
    exact ⟨_, rfl, okR_of (by omega) (by omega), rfl, rfl⟩
  have lr : (rng 0 (1 + v)).length ≤ 6 := by
    simp only [rng, List.length_map, List.length_range]
    omega
  obtain ⟨ys, o2, hB2, hP, ly, elc⟩ := fLc_draw (J := Drw.Bag) (P := isPc) (vs := [12]) (tg := tgN 12) (elt := fCall F__law_some (fCons (fVar 1) (fCons (fVar 2) (fNil)))) (fun o h => h.blw) (fun y h => by obtain ⟨s, _, rfl⟩ := h; rfl) hi hB1 (head_ok hS hB1) (by omega) (fun d hd o r hB hS => by
    obtain ⟨y, o', hy, hB', e⟩ := Drw.some_ok (xs := strsD pcs) hB hS (by decide) (by decide) (fun y hy => by
      obtain ⟨s, _, rfl⟩ := List.mem_map.mp hy
      rfl)
    rw [← some_drw] at e
    refine ⟨y, o', [sc, some (.loc 0), some (.lst (strsD pcs)), x3, x4, x5, x6, x7, x8, x9, x10, x11, some d, x13], ?_, hB', rfl, ?_⟩
    · obtain ⟨s, hs, rfl⟩ := List.mem_map.mp hy
      exact ⟨s, hs, rfl⟩
    · refine of_wd ?_
      rw [w_call, w_consA, w_var rfl, w_consA, w_var rfl, w_nil]
      exact wd_of e ⟨rfl, rfl⟩)
  obtain ⟨ss, e1, e2, e3⟩ := pcs_strs hP
  obtain ⟨j1, j2⟩ := join_okT (ss := ss) (fun s hs => pcs_ok s (e3 s hs)) (by omega)
  unfold lw_text
  rw [w_set, w_op, w_c, wd_eq elc]
  have ej : mJoin (.str "") (.lst ys) (o2 :: r) = some (.str (Txt.join "" ss), o2 :: r) := by
    simp only [mJoin, lsOf, Option.bind_some, e1]
    rw [if_pos (by rw [show ("" : Str).length = 0 from rfl]; omega)]
  rw [wd_eq ej]
  exact k _ _ j1 hB2
theorem make_ok {t : Str} {S : Store} {QS : Rt → Store → Prop} (hS : SOk S) (k : QS (.nx [sc, some (.loc 0), x3, x4, some (.str t), x5, some (.loc S.length), some (.int 0), some (.bl true), x9, x10, x11, x12, x13]) (S ++ [Sc C t 0 true])) :
    Wd (lw_make C [sc, some (.loc 0), x3, x4, some (.str t), x5, x6, x7, x8, x9, x10, x11, x12, x13] S) QS := by
  unfold lw_make sPar3
  have em : fMake C (F_Scan___init__ C) (fCons (fVar 4) (fNil)) [sc, some (.loc 0), x3, x4, some (.str t), x5, x6, x7, x8, x9, x10, x11, x12, x13] S = some (.loc S.length, S ++ [Sc C t 0 true]) := by
    unfold fMake
    simp only [fCons, fVar, fNil, List.getElem?_cons_succ, List.getElem?_cons_zero, bnd_some]
    rw [ev_init hS]
  rw [wd_bnd, w_consA, wd_eq em, w_consA, w_c, w_consA, w_c, w_nil]
  exact wd_some.mpr k
theorem ne_tup {S : Store} {t : Str} {a : Int} {b : Bool} (h : okT t) : oNeX (.tup [.str t, .int a, .bl b]) (.tup [.str t, .int a, .bl b]) S = some (.bl false, S) := by
  have h1 : SeqAt.shaped (.tuple [.str t, .int a, .bool b]) = true := by
    simp [SeqAt.shaped, PyData.canLay0, PyData.canLayAll0, PyData.depth, PyData.depthAll, h.strOk]
  have : oNe (.tup [.str t, .int a, .bl b]) (.tup [.str t, .int a, .bl b]) S = some (.bl false, S) := by
    unfold oNe oEqN
    simp only [rdS, D.py, D.pys, Option.bind_some, Option.map_some, h1, Bool.and_self, if_true]
    simp [PyData.eqv, PyData.eqvAll]
  unfold oNeX
  rw [this]
  rfl
theorem chk_ok {t : Str} {S : Store} {n : Nat} {QS : Rt → Store → Prop} (ht : okT t) (h : S[n]? = some (Sc C t 0 true)) (k : QS (.nx [sc, some (.loc 0), x3, x4, some (.str t), x5, some (.loc n), x7, x8, x9, x10, x11, x12, x13]) S) :
    Wd (lw_chk C [sc, some (.loc 0), x3, x4, some (.str t), x5, some (.loc n), x7, x8, x9, x10, x11, x12, x13] S) QS := by
  unfold lw_chk
  rw [w_if, w_B, w_op, w_tup, w_consA, w_text h rfl, w_consA, w_at h rfl, w_consA, w_good h rfl, w_nil]
  refine ⟨s3, ?_⟩
  rw [w_tup, w_consA, w_var rfl, w_consA, w_c, w_consA, w_c, w_nil]
  refine ⟨s3, ?_⟩
  refine wd_of (ne_tup (a := 0) ht) ⟨_, rfl, ?_⟩
  rw [if_neg Bool.false_ne_true, w_sN]
  exact k
end
end K02

set_option Elab.async false
set_option linter.all false
set_option maxRecDepth 100000
set_option autoImplicit false
set_option maxHeartbeats 200000
namespace K02
open PySem L2 Mir
variable {S : Store} {C : Addr}
theorem slen {n : Nat} (h : n ≤ 100) : n ≤ sizeLine := Nat.le_trans h Drw.sizeLine_le
/-! ### one ask -/
def wws : List Str := ["rule", " ", "of", "end", "x"]
theorem wws_len : ∀ w ∈ wws, w.length ≤ 50 := by decide +kernel
section
variable {sc pcsD x3 x5 x9 x10 x11 x12 x13 : Option D} {t : Str} {a n : Nat} {g : Bool} {o : O} {r : Store}
theorem ask_ok {QS : Rt → Store → Prop} (hB : Drw.Bag o) (hS : SOk (o :: r)) (k : ∀ (q : Ask) x9 o', q.ok → Drw.Bag o' → Wd (sCons (tn_call C) (sCons tn_law (tn_chk C)) (envT sc pcsD x3 t x5 n a g x9 q x11 x12 x13) (o' :: r)) QS) :
    Wd (turn C [sc, some (.loc 0), pcsD, x3, some (.str t), x5, some (.loc n), some (.int (a : Int)), some (.bl g), x9, x10, x11, x12, x13] (o :: r)) QS := by
  unfold turn
  rw [w_seq]
  unfold tn_some
  rw [w_set, w_lst, w_consA, w_tup, w_consA, w_c, w_consA, w_call, w_consA, w_var rfl, w_consA, w_lst, w_consA, w_c, w_consA, w_c, w_consA, w_c, w_consA, w_c, w_consA, w_c, w_nil]
  refine ⟨slen (by simp), ?_⟩
  rw [w_nil]
  refine sm_wd (xs := strsD wws) hB hS (by decide) (by decide) (fun y hy => by
    obtain ⟨s, _, rfl⟩ := List.mem_map.mp hy
    rfl) fun y o1 hy hB1 => ?_
  obtain ⟨w, hw, rfl⟩ := List.mem_map.mp hy
  have hS1 := head_ok hS hB1
  rw [w_nil]
  refine ⟨slen (by simp), ?_⟩
  rw [w_consA, w_tup, w_consA, w_c, w_nil]
  refine ⟨slen (by simp), ?_⟩
  rw [w_consA, w_tup, w_consA, w_c, w_consA, w_lst, w_consA, w_c, w_consA, w_c, w_consA, w_c, w_nil]
  refine ⟨slen (by simp), ?_⟩
  rw [w_nil]
  refine ⟨slen (by simp), ?_⟩
  rw [w_consA, w_tup, w_consA, w_c, w_nil]
  refine ⟨slen (by simp), ?_⟩
  rw [w_nil]
  refine ⟨slen (by simp), ?_⟩
  simp only [List.set_cons_succ, List.set_cons_zero]
  rw [w_seq]
  unfold tn_ask
  rw [w_set, w_call, w_consA, w_var rfl, w_consA, w_op, w_var rfl, w_lst, w_consA, w_tup, w_consA, w_c, w_consA, w_call, w_consA, w_var rfl, w_consA, w_c, w_nil]
  refine tk_wd hB1 hS1 (by omega) (by omega) fun lo o2 hlo hB2 => ?_
  have hS2 := head_ok hS1 hB2
  rw [w_consA, w_call, w_consA, w_var rfl, w_consA, w_lst, w_consA, w_c, w_consA, w_c, w_consA, w_c, w_nil]
  refine ⟨slen (by simp), ?_⟩
  rw [w_nil]
  refine sm_wd hB2 hS2 (by simp) (by simp) (fun y hy => by
    simp only [List.mem_cons, List.not_mem_nil, or_false] at hy
    rcases hy with rfl | rfl | rfl <;> rfl) fun y o3 hy hB3 => ?_
  have hS3 := head_ok hS2 hB3
  obtain ⟨hi, rfl, hhi⟩ : ∃ hi : Nat, y = .int (hi : Int) ∧ (hi = 12 ∨ hi = 60 ∨ hi = 400) := by
    simp only [List.mem_cons, List.not_mem_nil, or_false] at hy
    rcases hy with rfl | rfl | rfl
    · exact ⟨12, rfl, .inl rfl⟩
    · exact ⟨60, rfl, .inr (.inl rfl)⟩
    · exact ⟨400, rfl, .inr (.inr rfl)⟩
  rw [w_nil]
  refine ⟨slen (by simp), ?_⟩
  rw [w_nil]
  refine ⟨slen (by simp), ?_⟩
  have sl := Drw.sizeLine_le
  refine wd_of (a := .lst [(Ask.word w).d, Ask.fin.d, Ask.one.d, Ask.name.d, (Ask.number lo hi).d]) (S := o3 :: r) (by
    simp only [oAdd]
    rw [if_pos (by simp; omega)]
    rfl) ?_
  rw [w_nil]
  refine sm_wd hB3 hS3 (by simp) (by simp) (fun y hy => by
    simp only [List.mem_cons, List.not_mem_nil, or_false] at hy
    rcases hy with rfl | rfl | rfl | rfl | rfl <;> rfl) fun y o4 hy hB4 => ?_
  obtain ⟨q, rfl, hq⟩ : ∃ q : Ask, y = q.d ∧ q.ok := by
    simp only [List.mem_cons, List.not_mem_nil, or_false] at hy
    rcases hy with rfl | rfl | rfl | rfl | rfl
    · exact ⟨_, rfl, wws_len w hw⟩
    · exact ⟨_, rfl, trivial⟩
    · exact ⟨_, rfl, trivial⟩
    · exact ⟨_, rfl, trivial⟩
    · exact ⟨_, rfl, by omega, hhi⟩
  simp only [List.set_cons_succ, List.set_cons_zero]
  exact k q _ o4 hq hB4
end
end K02

set_option Elab.async false
set_option linter.all false
set_option maxRecDepth 100000
set_option autoImplicit false
set_option maxHeartbeats 200000
namespace K02
open PySem L2 Mir
variable {S : Store} {C : Addr}
section
variable {sc pcsD x3 x5 x9 x10 x11 x12 x13 : Option D} {t : Str} {a n : Nat} {g : Bool} {o : O} {r : Store}
theorem turn_ok {QS : Rt → Store → Prop} (hB : Drw.Bag o) (hS : SOk (o :: r)) (ht : okT t) (ha : a ≤ t.cps.toList.length) (hn : 0 < n) (h : (o :: r)[n]? = some (Sc C t a g))
    (k : ∀ (a' : Nat) (g' : Bool) (x9 x10 x11 x13 : Option D) (o' : O) (r' : Store), a' ≤ t.cps.toList.length → Drw.Bag o' → SOk (o' :: r') → (o' :: r')[n]? = some (Sc C t a' g') → r'.length = r.length → QS (.nx [sc, some (.loc 0), pcsD, x3, some (.str t), x5, some (.loc n), some (.int (a' : Int)), some (.bl g'), x9, x10, x11, x12, x13]) (o' :: r')) :
    Wd (turn C [sc, some (.loc 0), pcsD, x3, some (.str t), x5, some (.loc n), some (.int (a : Int)), some (.bl g), x9, x10, x11, x12, x13] (o :: r)) QS := by
  refine ask_ok hB hS fun q y9 o1 hq hB1 => ?_
  have hS1 := head_ok hS hB1
  obtain ⟨m, rfl⟩ : ∃ m, n = m + 1 := ⟨n - 1, by omega⟩
  have h1 : (o1 :: r)[m + 1]? = some (Sc C t a g) := h
  rw [w_seq]
  refine wd_mono (call_part q hq hS1 ht.1 ha h1) fun rr S' hq1 => ?_
  obtain ⟨rfl, told, rfl, hdue⟩ := hq1
  simp only
  have hd := δ_le (t.cps.toList.drop a) q
  rw [List.length_drop] at hd
  have hS2 : SOk ((o1 :: r).set (m + 1) (Sc C t (a + if g then δ (t.cps.toList.drop a) q else 0) (g && fitsA (t.cps.toList.drop a) q))) := set_ok hS1 sc_blw
  have h2 := get_set (o' := Sc C t (a + if g then δ (t.cps.toList.drop a) q else 0) (g && fitsA (t.cps.toList.drop a) q)) h1
  rw [w_seq]
  unfold envT
  refine wd_mono (law_part hS2 (fun _ => law_ask q hq hS2 ht.1 ha) hdue) fun rr S' hq2 => ?_
  obtain ⟨rfl, y13, rfl⟩ := hq2
  simp only
  refine wd_mono (chk_part hS2 ht h2) fun rr S' hq3 => ?_
  obtain ⟨rfl, rfl⟩ := hq3
  refine k _ _ _ _ _ _ o1 (r.set m _) ?_ hB1 hS2 h2 (by rw [List.length_set])
  split <;> omega
end
section
variable {sc x3 x4 x5 x6 x7 x8 x9 x10 x11 x12 x13 : Option D} {o : O} {r : Store}
def JL (sc : Option D) (e : Mir.Env) (S : Store) : Prop := (∃ x3 x4 x5 x6 x7 x8 x9 x10 x11 x12 x13, e = [sc, some (.loc 0), some (.lst (strsD pcs)), x3, x4, x5, x6, x7, x8, x9, x10, x11, x12, x13]) ∧ ∃ o r, S = o :: r ∧ Drw.Bag o ∧ SOk (o :: r)
def JU (C : Addr) (sc : Option D) (t : Str) (n : Nat) (e : Mir.Env) (S : Store) : Prop := ∃ (x3 x5 x9 x10 x11 x12 x13 : Option D) (a : Nat) (g : Bool) (o : O) (r : Store), e = [sc, some (.loc 0), some (.lst (strsD pcs)), x3, some (.str t), x5, some (.loc n), some (.int (a : Int)), some (.bl g), x9, x10, x11, x12, x13] ∧
  S = o :: r ∧ Drw.Bag o ∧ SOk (o :: r) ∧ (o :: r)[n]? = some (Sc C t a g) ∧ a ≤ t.cps.toList.length
theorem lap_ok (hB : Drw.Bag o) (hS : SOk (o :: r)) : Wd (lap C [sc, some (.loc 0), some (.lst (strsD pcs)), x3, x4, x5, x6, x7, x8, x9, x10, x11, x12, x13] (o :: r)) fun rr S' => ∃ e, rr = .nx e ∧ JL sc e S' := by
  unfold lap
  rw [w_seq]
  refine text_ok hB hS fun t o1 ht hB1 => ?_
  have hS1 := head_ok hS hB1
  simp only
  rw [w_seq]
  refine make_ok hS1 ?_
  simp only
  have hS2 : SOk (o1 :: (r ++ [Sc C t 0 true])) := hS1.snoc sc_blw
  have hg : ((o1 :: r) ++ [Sc C t 0 true])[(o1 :: r).length]? = some (Sc C t 0 true) := by simp
  rw [w_seq]
  refine chk_ok ht hg ?_
  simp only
  have hn : 0 < (o1 :: r).length := by simp
  generalize (o1 :: r).length = n at hg hn ⊢
  obtain ⟨v, o2, v0, v1, hB2, e⟩ := Drw.take_ok (m := 6) hB1 hS2 (by omega) (by omega)
  have e : F__law_take [.loc 0, .int 6] (o1 :: (r ++ [Sc C t 0 true])) = some (.int v, o2 :: (r ++ [Sc C t 0 true])) := e
  have hS3 := head_ok hS2 hB2
  obtain ⟨m, rfl⟩ : ∃ m, n = m + 1 := ⟨n - 1, by omega⟩
  have hg2 : (o2 :: (r ++ [Sc C t 0 true]))[m + 1]? = some (Sc C t 0 true) := hg
  refine w_for (JU C sc t (m + 1)) (ds := rng 0 (1 + v)) (S1 := o2 :: (r ++ [Sc C t 0 true])) ?_ ⟨_, _, _, _, _, _, _, 0, true, o2, _, rfl, rfl, hB2, hS3, hg2, Nat.zero_le _⟩ (fun d hd e S2 hJ => ?_) fun e S2 hJ => ?_
  · refine of_wd ?_
    rw [w_rng1, w_op, w_c, w_call, w_consA, w_var rfl, w_consA, w_c, w_nil]
    refine wd_of e ?_
    rw [wd_eq Drw.add_ok]
    exact ⟨_, rfl, okR_of (by omega) (by omega), rfl, rfl⟩
  · obtain ⟨y3, y5, y9, y10, y11, y12, y13, a, g, o3, r3, rfl, rfl, hB3, hS3, hg3, ha⟩ := hJ
    refine wd_of (a := [sc, some (.loc 0), some (.lst (strsD pcs)), y3, some (.str t), some d, some (.loc (m + 1)), some (.int (a : Int)), some (.bl g), y9, y10, y11, y12, y13]) (S := o3 :: r3) rfl ?_
    refine turn_ok hB3 hS3 ht ha hn hg3 fun a' g' z9 z10 z11 z13 o' r' ha' hB' hS' h' hl => ?_
    exact ⟨_, rfl, _, _, _, _, _, _, _, a', g', o', r', rfl, rfl, hB', hS', h', ha'⟩
  · obtain ⟨y3, y5, y9, y10, y11, y12, y13, a, g, o3, r3, rfl, rfl, hB3, hS3, hg3, ha⟩ := hJ
    exact ⟨_, rfl, ⟨_, _, _, _, _, _, _, _, _, _, _, rfl⟩, o3, r3, rfl, hB3, hS3⟩
end
theorem law_plain {C : Addr} (ns : List Int) (hl : ns.length ≤ 63) : ∃ S, F_law C [.fro (ns.map .int)] [] = some (.bl true, S) := by
  obtain ⟨o, hB, eb⟩ := Drw.bag_ok hl
  have eb : F__law_bag [.fro (ns.map .int)] [] = some (.loc 0, [o]) := eb
  have e : Wd (F_law C [.fro (ns.map .int)] []) fun d _ => d = .bl true := by
    refine w_fn rfl ?_
    show Wd (B_law C [some (.fro (ns.map .int)), none, none, none, none, none, none, none, none, none, none, none, none, none] []) _
    rw [law_eq, w_seq, w_set, w_call, w_consA, w_var rfl, w_nil, wd_eq eb]
    simp only [List.set_cons_succ, List.set_cons_zero]
    rw [w_seq, w_set, w_lst]
    simp only [w_consA, w_c, w_nil]
    refine ⟨by decide, ?_⟩
    simp only [List.set_cons_succ, List.set_cons_zero]
    rw [w_seq]
    refine w_for (JL (some (.fro (ns.map .int)))) (ds := rng 0 16) (S1 := [o]) (by simp [fRng1, fnC, sRet, sCons, sIf, sSet, sNil, fAndV, fOrV, fCall, fCons, fVar, fC, fNil, bnd, asB, fNotV, fOp, fUn, fNot, fAnd, fOr, fB, fTr, fChain, fIf, fTup, fLst, fSl, foNone, foSome, asI, okR]) ⟨⟨_, _, _, _, _, _, _, _, _, _, _, rfl⟩, o, [], rfl, hB, hB.ok⟩ (fun d hd e S2 hJ => ?_) fun e S2 hJ => ?_
    · obtain ⟨⟨x3, x4, x5, x6, x7, x8, x9, x10, x11, x12, x13, rfl⟩, o1, r1, rfl, hB1, hS1⟩ := hJ
      refine wd_of (a := [some (.fro (ns.map .int)), some (.loc 0), some (.lst (strsD pcs)), some d, x4, x5, x6, x7, x8, x9, x10, x11, x12, x13]) (S := o1 :: r1) rfl ?_
      exact lap_ok hB1 hS1
    · obtain ⟨_, o1, r1, rfl, hB1, hS1⟩ := hJ
      simp only
      rw [w_ret, w_c]
      have : closeV 0 (.bl true) (o1 :: r1) = some (.bl true, []) := by
        unfold closeV
        simp [D.blw]
      exact ⟨.bl true, .inl rfl, wd_of this rfl⟩
  obtain ⟨d, S, e1, rfl⟩ := e
  exact ⟨S, e1⟩
end K02

set_option Elab.async false
set_option linter.all false
set_option maxRecDepth 100000
set_option autoImplicit false
set_option maxHeartbeats 4000000
namespace K02
open PySem PySem.P PySem.Spec PyProof.Rows L2 Mir
theorem fun_ne {K : PySem.W.Frag} {x y q q2 : Str} {st st2 : Stmt} {f g : Addr} {fd fd2 : FuncData} (F1 : Fun K x q st f fd) (F2 : Fun K y q2 st2 g fd2) (h : x ≠ y) : f ≠ g := by
  rintro rfl
  obtain ⟨_, _, _, _, _, _, _, _, _, e1, l1, _⟩ := F1.ex
  obtain ⟨_, _, _, _, _, _, _, _, _, e2, l2, _⟩ := F2.ex
  rw [l1] at l2
  cases l2
  rw [e1] at e2
  exact h (congrArg FuncData.name e2)
theorem all_mk {l : PySem.W.OpenLaw} {w : World} {K : PySem.W.Frag} {h : Heap} {mg : Str → Option Value} {fa f0 f1 f2 f3 f4 f5 f6 f7 f8 f9 f10 f11 f12 f13 f14 f15 f16 f17 f18 C_Scan : Addr} (X : K.In h) (G : h.Ns mainGlobals mg) (hfa : mg "law" = some (.ref fa))
    {od0 an0 od1 an1 od2 an2 od3 an3 od4 an4 od5 an5 od6 an6 od7 an7 od8 an8 od9 an9 od10 an10 od11 an11 od12 an12 od13 an13 od14 an14 od15 an15 od16 an16 od17 an17 od18 an18 : Option Addr} {sl0 sl1 sl2 sl3 sl4 sl5 sl6 sl7 sl8 sl9 sl10 sl11 sl12 sl13 sl14 sl15 sl16 sl17 sl18 : Array (Option Value)}
    {oc0 kV0 dc0 pm0 cd0 ct0 oc1 kV1 dc1 pm1 cd1 ct1 oc2 kV2 dc2 pm2 cd2 ct2 oc3 kV3 dc3 pm3 cd3 ct3 oc4 kV4 dc4 pm4 cd4 ct4 oc5 kV5 dc5 pm5 cd5 ct5 oc6 kV6 dc6 pm6 cd6 ct6 oc7 kV7 dc7 pm7 cd7 ct7 oc8 kV8 dc8 pm8 cd8 ct8 oc9 kV9 dc9 pm9 cd9 ct9 oc10 kV10 dc10 pm10 cd10 ct10 oc11 kV11 dc11 pm11 cd11 ct11 oc12 kV12 dc12 pm12 cd12 ct12 oc13 kV13 dc13 pm13 cd13 ct13 oc14 kV14 dc14 pm14 cd14 ct14 oc15 kV15 dc15 pm15 cd15 ct15 oc16 kV16 dc16 pm16 cd16 ct16 oc17 kV17 dc17 pm17 cd17 ct17 oc18 kV18 dc18 pm18 cd18 ct18 : Value}
    (kA_Scan : PySem.W.nsIn K mainGlobals "Scan" = some (some (.ref C_Scan)))
    (a0 : PySem.W.nsIn K mainGlobals "can_begin" = some (some (.ref f0)))
      (l0 : K.lookup f0 = some ⟨oc0, od0, .func (PySem.W.fnOf "can_begin" "can_begin" (defArgs s_can_begin) (defBody s_can_begin) (defScope s_can_begin) .none kV0 dc0 pm0 an0 cd0 ct0), sl0⟩) (c0 : PySem.W.codeIn K cd0 "can_begin" = true) (k0 : PySem.W.keepIn K (.ref f0) = true)
    (a1 : PySem.W.findIn K (.ref C_Scan) "__init__" = some (some (.ref f1))) (i1 : PySem.W.isFn K (.ref f1) = true)
      (l1 : K.lookup f1 = some ⟨oc1, od1, .func (PySem.W.fnOf "__init__" "Scan.__init__" (defArgs s_Scan___init__) (defBody s_Scan___init__) (defScope s_Scan___init__) .none kV1 dc1 pm1 an1 cd1 ct1), sl1⟩) (c1 : PySem.W.codeIn K cd1 "Scan.__init__" = true) (k1 : PySem.W.keepIn K (.ref f1) = true)
    (a2 : PySem.W.findIn K (.ref C_Scan) "next_sign" = some (some (.ref f2))) (i2 : PySem.W.isFn K (.ref f2) = true)
      (l2 : K.lookup f2 = some ⟨oc2, od2, .func (PySem.W.fnOf "next_sign" "Scan.next_sign" (defArgs s_Scan_next_sign) (defBody s_Scan_next_sign) (defScope s_Scan_next_sign) .none kV2 dc2 pm2 an2 cd2 ct2), sl2⟩) (c2 : PySem.W.codeIn K cd2 "Scan.next_sign" = true) (k2 : PySem.W.keepIn K (.ref f2) = true)
    (a3 : PySem.W.findIn K (.ref C_Scan) "rest_run" = some (some (.ref f3))) (i3 : PySem.W.isFn K (.ref f3) = true)
      (l3 : K.lookup f3 = some ⟨oc3, od3, .func (PySem.W.fnOf "rest_run" "Scan.rest_run" (defArgs s_Scan_rest_run) (defBody s_Scan_rest_run) (defScope s_Scan_rest_run) .none kV3 dc3 pm3 an3 cd3 ct3), sl3⟩) (c3 : PySem.W.codeIn K cd3 "Scan.rest_run" = true) (k3 : PySem.W.keepIn K (.ref f3) = true)
    (a4 : PySem.W.findIn K (.ref C_Scan) "take_word" = some (some (.ref f4))) (i4 : PySem.W.isFn K (.ref f4) = true)
      (l4 : K.lookup f4 = some ⟨oc4, od4, .func (PySem.W.fnOf "take_word" "Scan.take_word" (defArgs s_Scan_take_word) (defBody s_Scan_take_word) (defScope s_Scan_take_word) .none kV4 dc4 pm4 an4 cd4 ct4), sl4⟩) (c4 : PySem.W.codeIn K cd4 "Scan.take_word" = true) (k4 : PySem.W.keepIn K (.ref f4) = true)
    (a5 : PySem.W.findIn K (.ref C_Scan) "take_name" = some (some (.ref f5))) (i5 : PySem.W.isFn K (.ref f5) = true)
      (l5 : K.lookup f5 = some ⟨oc5, od5, .func (PySem.W.fnOf "take_name" "Scan.take_name" (defArgs s_Scan_take_name) (defBody s_Scan_take_name) (defScope s_Scan_take_name) .none kV5 dc5 pm5 an5 cd5 ct5), sl5⟩) (c5 : PySem.W.codeIn K cd5 "Scan.take_name" = true) (k5 : PySem.W.keepIn K (.ref f5) = true)
    (a6 : PySem.W.findIn K (.ref C_Scan) "shared_with" = some (some (.ref f6))) (i6 : PySem.W.isFn K (.ref f6) = true)
      (l6 : K.lookup f6 = some ⟨oc6, od6, .func (PySem.W.fnOf "shared_with" "Scan.shared_with" (defArgs s_Scan_shared_with) (defBody s_Scan_shared_with) (defScope s_Scan_shared_with) .none kV6 dc6 pm6 an6 cd6 ct6), sl6⟩) (c6 : PySem.W.codeIn K cd6 "Scan.shared_with" = true) (k6 : PySem.W.keepIn K (.ref f6) = true)
    (a7 : PySem.W.findIn K (.ref C_Scan) "take_one_of" = some (some (.ref f7))) (i7 : PySem.W.isFn K (.ref f7) = true)
      (l7 : K.lookup f7 = some ⟨oc7, od7, .func (PySem.W.fnOf "take_one_of" "Scan.take_one_of" (defArgs s_Scan_take_one_of) (defBody s_Scan_take_one_of) (defScope s_Scan_take_one_of) .none kV7 dc7 pm7 an7 cd7 ct7), sl7⟩) (c7 : PySem.W.codeIn K cd7 "Scan.take_one_of" = true) (k7 : PySem.W.keepIn K (.ref f7) = true)
    (a8 : PySem.W.findIn K (.ref C_Scan) "take_number" = some (some (.ref f8))) (i8 : PySem.W.isFn K (.ref f8) = true)
      (l8 : K.lookup f8 = some ⟨oc8, od8, .func (PySem.W.fnOf "take_number" "Scan.take_number" (defArgs s_Scan_take_number) (defBody s_Scan_take_number) (defScope s_Scan_take_number) .none kV8 dc8 pm8 an8 cd8 ct8), sl8⟩) (c8 : PySem.W.codeIn K cd8 "Scan.take_number" = true) (k8 : PySem.W.keepIn K (.ref f8) = true)
    (a9 : PySem.W.findIn K (.ref C_Scan) "take_end" = some (some (.ref f9))) (i9 : PySem.W.isFn K (.ref f9) = true)
      (l9 : K.lookup f9 = some ⟨oc9, od9, .func (PySem.W.fnOf "take_end" "Scan.take_end" (defArgs s_Scan_take_end) (defBody s_Scan_take_end) (defScope s_Scan_take_end) .none kV9 dc9 pm9 an9 cd9 ct9), sl9⟩) (c9 : PySem.W.codeIn K cd9 "Scan.take_end" = true) (k9 : PySem.W.keepIn K (.ref f9) = true)
    (a10 : PySem.W.nsIn K mainGlobals "_law_bag" = some (some (.ref f10)))
      (l10 : K.lookup f10 = some ⟨oc10, od10, .func (PySem.W.fnOf "_law_bag" "_law_bag" (defArgs s__law_bag) (defBody s__law_bag) (defScope s__law_bag) .none kV10 dc10 pm10 an10 cd10 ct10), sl10⟩) (c10 : PySem.W.codeIn K cd10 "_law_bag" = true) (k10 : PySem.W.keepIn K (.ref f10) = true)
    (a11 : PySem.W.nsIn K mainGlobals "_law_take" = some (some (.ref f11)))
      (l11 : K.lookup f11 = some ⟨oc11, od11, .func (PySem.W.fnOf "_law_take" "_law_take" (defArgs s__law_take) (defBody s__law_take) (defScope s__law_take) .none kV11 dc11 pm11 an11 cd11 ct11), sl11⟩) (c11 : PySem.W.codeIn K cd11 "_law_take" = true) (k11 : PySem.W.keepIn K (.ref f11) = true)
    (a12 : PySem.W.nsIn K mainGlobals "_law_some" = some (some (.ref f12)))
      (l12 : K.lookup f12 = some ⟨oc12, od12, .func (PySem.W.fnOf "_law_some" "_law_some" (defArgs s__law_some) (defBody s__law_some) (defScope s__law_some) .none kV12 dc12 pm12 an12 cd12 ct12), sl12⟩) (c12 : PySem.W.codeIn K cd12 "_law_some" = true) (k12 : PySem.W.keepIn K (.ref f12) = true)
    (a13 : PySem.W.nsIn K mainGlobals "_law_alike" = some (some (.ref f13)))
      (l13 : K.lookup f13 = some ⟨oc13, od13, .func (PySem.W.fnOf "_law_alike" "_law_alike" (defArgs s__law_alike) (defBody s__law_alike) (defScope s__law_alike) .none kV13 dc13 pm13 an13 cd13 ct13), sl13⟩) (c13 : PySem.W.codeIn K cd13 "_law_alike" = true) (k13 : PySem.W.keepIn K (.ref f13) = true)
    (a14 : PySem.W.nsIn K mainGlobals "_law_is_called" = some (some (.ref f14)))
      (l14 : K.lookup f14 = some ⟨oc14, od14, .func (PySem.W.fnOf "_law_is_called" "_law_is_called" (defArgs s__law_is_called) (defBody s__law_is_called) (defScope s__law_is_called) .none kV14 dc14 pm14 an14 cd14 ct14), sl14⟩) (c14 : PySem.W.codeIn K cd14 "_law_is_called" = true) (k14 : PySem.W.keepIn K (.ref f14) = true)
    (a15 : PySem.W.nsIn K mainGlobals "_law_run" = some (some (.ref f15)))
      (l15 : K.lookup f15 = some ⟨oc15, od15, .func (PySem.W.fnOf "_law_run" "_law_run" (defArgs s__law_run) (defBody s__law_run) (defScope s__law_run) .none kV15 dc15 pm15 an15 cd15 ct15), sl15⟩) (c15 : PySem.W.codeIn K cd15 "_law_run" = true) (k15 : PySem.W.keepIn K (.ref f15) = true)
    (a16 : PySem.W.nsIn K mainGlobals "_law_is_begun" = some (some (.ref f16)))
      (l16 : K.lookup f16 = some ⟨oc16, od16, .func (PySem.W.fnOf "_law_is_begun" "_law_is_begun" (defArgs s__law_is_begun) (defBody s__law_is_begun) (defScope s__law_is_begun) .none kV16 dc16 pm16 an16 cd16 ct16), sl16⟩) (c16 : PySem.W.codeIn K cd16 "_law_is_begun" = true) (k16 : PySem.W.keepIn K (.ref f16) = true)
    (a17 : PySem.W.nsIn K mainGlobals "_law_gone" = some (some (.ref f17)))
      (l17 : K.lookup f17 = some ⟨oc17, od17, .func (PySem.W.fnOf "_law_gone" "_law_gone" (defArgs s__law_gone) (defBody s__law_gone) (defScope s__law_gone) .none kV17 dc17 pm17 an17 cd17 ct17), sl17⟩) (c17 : PySem.W.codeIn K cd17 "_law_gone" = true) (k17 : PySem.W.keepIn K (.ref f17) = true)
    (a18 : PySem.W.nsIn K mainGlobals "law" = some (some (.ref f18)))
      (l18 : K.lookup f18 = some ⟨oc18, od18, .func (PySem.W.fnOf "law" "law" (defArgs s_law) (defBody s_law) (defScope s_law) .none kV18 dc18 pm18 an18 cd18 ct18), sl18⟩) (c18 : PySem.W.codeIn K cd18 "law" = true) (k18 : PySem.W.keepIn K (.ref f18) = true)
    (pg_Scan : PySem.W.plainGet K C_Scan Str.empty = true) (hd_Scan : PySem.W.hasDictIn K C_Scan = true) (po_Scan : PySem.W.plainOver K C_Scan = true) (sa_Scan : PySem.W.findIn K (.ref C_Scan) "__setattr__" = some (some (.builtin "object.__setattr__")))
    (mk_Scan : PySem.W.makesIn K C_Scan = true) (kc_Scan : PySem.W.keepIn K (.ref C_Scan) = true)
    (n_Scan_text : PySem.W.findIn K (.ref C_Scan) "text" = some none)
    (n_Scan_at : PySem.W.findIn K (.ref C_Scan) "at" = some none)
    (n_Scan_good : PySem.W.findIn K (.ref C_Scan) "good" = some none)
    (z_abs : PySem.W.nsIn K mainGlobals "abs" = some none)
    (z_all : PySem.W.nsIn K mainGlobals "all" = some none)
    (z_bool : PySem.W.nsIn K mainGlobals "bool" = some none)
    (z_int : PySem.W.nsIn K mainGlobals "int" = some none)
    (z_isinstance : PySem.W.nsIn K mainGlobals "isinstance" = some none)
    (z_len : PySem.W.nsIn K mainGlobals "len" = some none)
    (z_max : PySem.W.nsIn K mainGlobals "max" = some none)
    (z_min : PySem.W.nsIn K mainGlobals "min" = some none)
    (z_range : PySem.W.nsIn K mainGlobals "range" = some none)
    (z_repr : PySem.W.nsIn K mainGlobals "repr" = some none)
    (z_str : PySem.W.nsIn K mainGlobals "str" = some none)
    {t_DIGITS : Tok} (ca_DIGITS : PySem.W.nsIn K mainGlobals "DIGITS" = some (some (.str "0123456789" t_DIGITS)))
    {t_LETTERS : Tok} (ca_LETTERS : PySem.W.nsIn K mainGlobals "LETTERS" = some (some (.str "abcdefghijklmnopqrstuvwxyz" t_LETTERS)))
    {t_MOST_SIGNS : Tok} (ca_MOST_SIGNS : PySem.W.nsIn K mainGlobals "MOST_SIGNS" = some (some (.int 8 t_MOST_SIGNS)))
    {r_RESERVED : Addr} {ro_RESERVED : Option Addr} {rs_RESERVED : Array (Option Value)} {rn_RESERVED : Nat} {ru_RESERVED : List Value} (ra_RESERVED : PySem.W.nsIn K mainGlobals "RESERVED" = some (some (.ref r_RESERVED))) (rl_RESERVED : K.lookup r_RESERVED = some ⟨.type "tuple", ro_RESERVED, .seq ru_RESERVED.toArray rn_RESERVED, rs_RESERVED⟩) (rv_RESERVED : StrsAre ru_RESERVED v_RESERVED)
    : ∃ (fd : FuncData) (F : FF), (∀ (s : Shared) (v : Value), BindsTo s fd ⟨[v], []⟩ [("script", v)]) ∧ (∀ base : Heap, K.In base → base.Ns mainGlobals mg → FnG l.prog w K mg base 4 fa fd ["script"] F) ∧
      ∀ ns : List Int, ns.length ≤ 63 → (∀ z ∈ ns, Builtin.Int.intBits z ≤ 1048576) → ∃ S, F [.fro (ns.map .int)] [] = some (.bl true, S) := by
  have e := hfa.symm.trans (PySem.W.mg_of X G a18)
  cases e
  have T : Tp K mg C_Scan := ⟨trivial, PySem.W.mg_none_of X G z_abs, PySem.W.mg_none_of X G z_all, PySem.W.mg_none_of X G z_bool, PySem.W.mg_none_of X G z_int, PySem.W.mg_none_of X G z_isinstance, PySem.W.mg_none_of X G z_len, PySem.W.mg_none_of X G z_max, PySem.W.mg_none_of X G z_min, PySem.W.mg_none_of X G z_range, PySem.W.mg_none_of X G z_repr, PySem.W.mg_none_of X G z_str, ⟨t_DIGITS, PySem.W.mg_of X G ca_DIGITS⟩, ⟨t_LETTERS, PySem.W.mg_of X G ca_LETTERS⟩, ⟨t_MOST_SIGNS, PySem.W.mg_of X G ca_MOST_SIGNS⟩, tupS_of (PySem.W.mg_of X G ra_RESERVED) rl_RESERVED (by rw [strsAre_len rv_RESERVED]; decide) rv_RESERVED, ⟨pg_Scan, hd_Scan, po_Scan, sa_Scan⟩, n_Scan_text, n_Scan_at, n_Scan_good⟩
  have F_0 := fun_mk (st := s_can_begin) l0 c0 k0
  have b_0 := F_0.binds (ps := ["run", "least", "most"]) fun _ _ _ _ _ _ us hl => match us, hl with | [_, _, _], _ => rfl
  have m_0 := PySem.W.mg_of X G a0
  have F_1 := fun_mk (st := s_Scan___init__) l1 c1 k1
  have b_1 := F_1.binds (ps := ["self", "text"]) fun _ _ _ _ _ _ us hl => match us, hl with | [_, _], _ => rfl
  have F_2 := fun_mk (st := s_Scan_next_sign) l2 c2 k2
  have b_2 := F_2.binds (ps := ["self"]) fun _ _ _ _ _ _ us hl => match us, hl with | [_], _ => rfl
  have F_3 := fun_mk (st := s_Scan_rest_run) l3 c3 k3
  have b_3 := F_3.binds (ps := ["self"]) fun _ _ _ _ _ _ us hl => match us, hl with | [_], _ => rfl
  have F_4 := fun_mk (st := s_Scan_take_word) l4 c4 k4
  have b_4 := F_4.binds (ps := ["self", "word"]) fun _ _ _ _ _ _ us hl => match us, hl with | [_, _], _ => rfl
  have F_5 := fun_mk (st := s_Scan_take_name) l5 c5 k5
  have b_5 := F_5.binds (ps := ["self"]) fun _ _ _ _ _ _ us hl => match us, hl with | [_], _ => rfl
  have F_6 := fun_mk (st := s_Scan_shared_with) l6 c6 k6
  have b_6 := F_6.binds (ps := ["self", "word"]) fun _ _ _ _ _ _ us hl => match us, hl with | [_, _], _ => rfl
  have F_7 := fun_mk (st := s_Scan_take_one_of) l7 c7 k7
  have b_7 := F_7.binds (ps := ["self", "words"]) fun _ _ _ _ _ _ us hl => match us, hl with | [_, _], _ => rfl
  have F_8 := fun_mk (st := s_Scan_take_number) l8 c8 k8
  have b_8 := F_8.binds (ps := ["self", "least", "most"]) fun _ _ _ _ _ _ us hl => match us, hl with | [_, _, _], _ => rfl
  have F_9 := fun_mk (st := s_Scan_take_end) l9 c9 k9
  have b_9 := F_9.binds (ps := ["self"]) fun _ _ _ _ _ _ us hl => match us, hl with | [_], _ => rfl
  have F_10 := fun_mk (st := s__law_bag) l10 c10 k10
  have b_10 := F_10.binds (ps := ["script"]) fun _ _ _ _ _ _ us hl => match us, hl with | [_], _ => rfl
  have m_10 := PySem.W.mg_of X G a10
  have F_11 := fun_mk (st := s__law_take) l11 c11 k11
  have b_11 := F_11.binds (ps := ["bag", "many"]) fun _ _ _ _ _ _ us hl => match us, hl with | [_, _], _ => rfl
  have m_11 := PySem.W.mg_of X G a11
  have F_12 := fun_mk (st := s__law_some) l12 c12 k12
  have b_12 := F_12.binds (ps := ["bag", "things"]) fun _ _ _ _ _ _ us hl => match us, hl with | [_, _], _ => rfl
  have m_12 := PySem.W.mg_of X G a12
  have F_13 := fun_mk (st := s__law_alike) l13 c13 k13
  have b_13 := F_13.binds (ps := ["found", "due"]) fun _ _ _ _ _ _ us hl => match us, hl with | [_, _], _ => rfl
  have m_13 := PySem.W.mg_of X G a13
  have F_14 := fun_mk (st := s__law_is_called) l14 c14 k14
  have b_14 := F_14.binds (ps := ["thing"]) fun _ _ _ _ _ _ us hl => match us, hl with | [_], _ => rfl
  have m_14 := PySem.W.mg_of X G a14
  have F_15 := fun_mk (st := s__law_run) l15 c15 k15
  have b_15 := F_15.binds (ps := ["text", "at"]) fun _ _ _ _ _ _ us hl => match us, hl with | [_, _], _ => rfl
  have m_15 := PySem.W.mg_of X G a15
  have F_16 := fun_mk (st := s__law_is_begun) l16 c16 k16
  have b_16 := F_16.binds (ps := ["word", "least", "most"]) fun _ _ _ _ _ _ us hl => match us, hl with | [_, _, _], _ => rfl
  have m_16 := PySem.W.mg_of X G a16
  have F_17 := fun_mk (st := s__law_gone) l17 c17 k17
  have b_17 := F_17.binds (ps := ["text", "at", "ask"]) fun _ _ _ _ _ _ us hl => match us, hl with | [_, _, _], _ => rfl
  have m_17 := PySem.W.mg_of X G a17
  have F_18 := fun_mk (st := s_law) l18 c18 k18
  have b_18 := F_18.binds (ps := ["script"]) fun _ _ _ _ _ _ us hl => match us, hl with | [_], _ => rfl
  have m_18 := PySem.W.mg_of X G a18
  refine ⟨PySem.W.fnOf "law" "law" (defArgs s_law) (defBody s_law) (defScope s_law) .none kV18 dc18 pm18 an18 cd18 ct18, (F_law C_Scan), fun s v => .of_eq rfl, fun base _ _ => ?_, fun ns h _ => law_plain ns h⟩
  have G_0 := g_can_begin (P := l.prog) (w := w) (base := base) T F_0
  have D_0 := def_of F_0 m_0 G_0 b_0
  have G_1 := g_Scan___init__ (P := l.prog) (w := w) (base := base) T F_1
  have K_Scan : CDef l.prog w K mg base 1 "Scan" C_Scan _ := ⟨⟨_, _, _, G_1, ⟨mk_Scan, a1, i1, kc_Scan⟩, b_1⟩, PySem.W.mg_of X G kA_Scan⟩
  have G_2 := g_Scan_next_sign (P := l.prog) (w := w) (base := base) T F_2
  have D_2 : MDef l.prog w K mg base 1 C_Scan "next_sign" _ := ⟨⟨_, _, _, G_2, ⟨a2, i2, k2⟩, b_2⟩, T.cl_Scan⟩
  have G_3 := g_Scan_rest_run (P := l.prog) (w := w) (base := base) T F_3
  have D_3 : MDef l.prog w K mg base 1 C_Scan "rest_run" _ := ⟨⟨_, _, _, G_3, ⟨a3, i3, k3⟩, b_3⟩, T.cl_Scan⟩
  have G_4 := g_Scan_take_word (P := l.prog) (w := w) (base := base) T F_4 D_2
  have D_4 : MDef l.prog w K mg base 2 C_Scan "take_word" _ := ⟨⟨_, _, _, G_4, ⟨a4, i4, k4⟩, b_4⟩, T.cl_Scan⟩
  have G_5 := g_Scan_take_name (P := l.prog) (w := w) (base := base) T F_5 D_3
  have D_5 : MDef l.prog w K mg base 2 C_Scan "take_name" _ := ⟨⟨_, _, _, G_5, ⟨a5, i5, k5⟩, b_5⟩, T.cl_Scan⟩
  have G_6 := g_Scan_shared_with (P := l.prog) (w := w) (base := base) T F_6
  have D_6 : MDef l.prog w K mg base 1 C_Scan "shared_with" _ := ⟨⟨_, _, _, G_6, ⟨a6, i6, k6⟩, b_6⟩, T.cl_Scan⟩
  have G_7 := g_Scan_take_one_of (P := l.prog) (w := w) (base := base) T F_7 D_6 D_4
  have D_7 : MDef l.prog w K mg base 3 C_Scan "take_one_of" _ := ⟨⟨_, _, _, G_7, ⟨a7, i7, k7⟩, b_7⟩, T.cl_Scan⟩
  have G_8 := g_Scan_take_number (P := l.prog) (w := w) (base := base) T F_8 D_0 D_3
  have D_8 : MDef l.prog w K mg base 2 C_Scan "take_number" _ := ⟨⟨_, _, _, G_8, ⟨a8, i8, k8⟩, b_8⟩, T.cl_Scan⟩
  have G_9 := g_Scan_take_end (P := l.prog) (w := w) (base := base) T F_9
  have D_9 : MDef l.prog w K mg base 1 C_Scan "take_end" _ := ⟨⟨_, _, _, G_9, ⟨a9, i9, k9⟩, b_9⟩, T.cl_Scan⟩
  have G_10 := g__law_bag (P := l.prog) (w := w) (base := base) T F_10
  have D_10 := def_of F_10 m_10 G_10 b_10
  have G_11 := g__law_take (P := l.prog) (w := w) (base := base) T F_11
  have D_11 := def_of F_11 m_11 G_11 b_11
  have G_12 := g__law_some (P := l.prog) (w := w) (base := base) T F_12 D_11
  have D_12 := def_of F_12 m_12 G_12 b_12
  have G_13 := g__law_alike (P := l.prog) (w := w) (base := base) T F_13
  have D_13 := def_of F_13 m_13 G_13 b_13
  have G_14 := g__law_is_called (P := l.prog) (w := w) (base := base) T F_14
  have D_14 := def_of F_14 m_14 G_14 b_14
  have G_15 := g__law_run (P := l.prog) (w := w) (base := base) T F_15
  have D_15 := def_of F_15 m_15 G_15 b_15
  have G_16 := g__law_is_begun (P := l.prog) (w := w) (base := base) T F_16
  have D_16 := def_of F_16 m_16 G_16 b_16
  have G_17 := g__law_gone (P := l.prog) (w := w) (base := base) T F_17 D_16 D_15 D_14
  have D_17 := def_of F_17 m_17 G_17 b_17
  have G_18 := g_law (P := l.prog) (w := w) (base := base) T F_18 D_10 D_11 D_12 D_17 D_13 D_4 D_9 D_7 D_8 D_5 K_Scan
  have D_18 := def_of F_18 m_18 G_18 b_18
  exact G_18
end K02

set_option Elab.async false
set_option linter.all false
set_option maxRecDepth 100000
set_option autoImplicit false
open PySem PySem.W PyProof.Rows
set_option maxHeartbeats 0 in
theorem PySem.Challenge.cw_pagebooks_k02_lines_gone_over_by_scans_holds : PySem.Challenge.rw_pagebooks_k02_lines_gone_over_by_scans.Holds := by
  w_on; o_law; k_head; (case hw => w_witness2)
  k_fill
  refine Mir.walkG (l := PySem.Challenge.rw_pagebooks_k02_lines_gone_over_by_scans) (n := 63) (k := 4) (x := "script") rfl (by decide) rfl ⟨rfl, by decide, by decide⟩ (fun w h Y => PySem.W.kIn_of Y) ?F
  case F =>
    intro w mg fa h KX G hmg
    refine' K02.all_mk KX G hmg ?kA_Scan ?a0 ?l0 ?c0 ?k0 ?a1 ?i1 ?l1 ?c1 ?k1 ?a2 ?i2 ?l2 ?c2 ?k2 ?a3 ?i3 ?l3 ?c3 ?k3 ?a4 ?i4 ?l4 ?c4 ?k4 ?a5 ?i5 ?l5 ?c5 ?k5 ?a6 ?i6 ?l6 ?c6 ?k6 ?a7 ?i7 ?l7 ?c7 ?k7 ?a8 ?i8 ?l8 ?c8 ?k8 ?a9 ?i9 ?l9 ?c9 ?k9 ?a10 ?l10 ?c10 ?k10 ?a11 ?l11 ?c11 ?k11 ?a12 ?l12 ?c12 ?k12 ?a13 ?l13 ?c13 ?k13 ?a14 ?l14 ?c14 ?k14 ?a15 ?l15 ?c15 ?k15 ?a16 ?l16 ?c16 ?k16 ?a17 ?l17 ?c17 ?k17 ?a18 ?l18 ?c18 ?k18 ?pg_Scan ?hd_Scan ?po_Scan ?sa_Scan ?mk_Scan ?kc_Scan ?n_Scan_text ?n_Scan_at ?n_Scan_good ?z_abs ?z_all ?z_bool ?z_int ?z_isinstance ?z_len ?z_max ?z_min ?z_range ?z_repr ?z_str ?ca_DIGITS ?ca_LETTERS ?ca_MOST_SIGNS ?ra_RESERVED ?rl_RESERVED ?rv_RESERVED
    (case kA_Scan => k_is); (case a0 => k_is); (case l0 => k_is); (case c0 => k_is)
    (case k0 => k_is); (case a1 => k_is); (case i1 => k_is); (case l1 => k_is)
    (case c1 => k_is); (case k1 => k_is); (case a2 => k_is); (case i2 => k_is)
    (case l2 => k_is); (case c2 => k_is); (case k2 => k_is); (case a3 => k_is)
    (case i3 => k_is); (case l3 => k_is); (case c3 => k_is); (case k3 => k_is)
    (case a4 => k_is); (case i4 => k_is); (case l4 => k_is); (case c4 => k_is)
    (case k4 => k_is); (case a5 => k_is); (case i5 => k_is); (case l5 => k_is)
    (case c5 => k_is); (case k5 => k_is); (case a6 => k_is); (case i6 => k_is)
    (case l6 => k_is); (case c6 => k_is); (case k6 => k_is); (case a7 => k_is)
    (case i7 => k_is); (case l7 => k_is); (case c7 => k_is); (case k7 => k_is)
    (case a8 => k_is); (case i8 => k_is); (case l8 => k_is); (case c8 => k_is)
    (case k8 => k_is); (case a9 => k_is); (case i9 => k_is); (case l9 => k_is)
    (case c9 => k_is); (case k9 => k_is); (case a10 => k_is); (case l10 => k_is)
    (case c10 => k_is); (case k10 => k_is); (case a11 => k_is); (case l11 => k_is)
    (case c11 => k_is); (case k11 => k_is); (case a12 => k_is); (case l12 => k_is)
    (case c12 => k_is); (case k12 => k_is); (case a13 => k_is); (case l13 => k_is)
    (case c13 => k_is); (case k13 => k_is); (case a14 => k_is); (case l14 => k_is)
    (case c14 => k_is); (case k14 => k_is); (case a15 => k_is); (case l15 => k_is)
    (case c15 => k_is); (case k15 => k_is); (case a16 => k_is); (case l16 => k_is)
    (case c16 => k_is); (case k16 => k_is); (case a17 => k_is); (case l17 => k_is)
    (case c17 => k_is); (case k17 => k_is); (case a18 => k_is); (case l18 => k_is)
    (case c18 => k_is); (case k18 => k_is); (case pg_Scan => k_is); (case hd_Scan => k_is)
    (case po_Scan => k_is); (case sa_Scan => k_is); (case mk_Scan => k_is); (case kc_Scan => k_is)
    (case n_Scan_text => k_is); (case n_Scan_at => k_is); (case n_Scan_good => k_is); (case z_abs => k_is)
    (case z_all => k_is); (case z_bool => k_is); (case z_int => k_is); (case z_isinstance => k_is)
    (case z_len => k_is); (case z_max => k_is); (case z_min => k_is); (case z_range => k_is)
    (case z_repr => k_is); (case z_str => k_is); (case ca_DIGITS => k_is); (case ca_LETTERS => k_is)
    (case ca_MOST_SIGNS => k_is); (case ra_RESERVED => k_is); (case rl_RESERVED => k_is); (case rv_RESERVED => exact (.cons _ _ (.cons _ _ (.cons _ _ (.cons _ _ (.cons _ _ (.cons _ _ (.cons _ _ (.cons _ _ (.cons _ _ (.cons _ _ (.cons _ _ (.cons _ _ .nil)))))))))))))
