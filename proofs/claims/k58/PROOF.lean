import PyProof.Rows.All
import Wide.All
import OpenK.AllK
import Wide.FinOn
import HandS.ForMost
import HandS.Gcd
import HandS.Conv
import HandS.TupAny
import HandS.TupMul
import HandS.Wide
import HandS.Deep
import HandS.TupLen
import HandS.Flow
import HandS.SortInts
import HandS.Zip
import HandS.Rev
import HandS.More
import HandS.SortRule
import HandS.IsInst
import HandS.DictComp
import HandS.Strs
import HandS.Sort
import KE.DataMinMax
import KE.KStateDown
import Lean
import HandS.Base
import HandS.Call
import HandS.Ends
import HandS.Words
import HandS.WordsExc
import HandS.Defaults
import HandS.Head0
import HandS.Head1
import HandS.Head2
import HandS.Head3
import HandS.HeadEnd
import HandS.HeadHook1
import HandS.HeadHook2
import PySem.Challenge.RW_fareyhouse_k58_matrices_of_primes_and_im
set_option Elab.async false
set_option linter.all false
set_option maxRecDepth 100000
set_option maxHeartbeats 4000000

namespace Fy
open PySem PySem.Spec PyProof.Rows L2

/-! ## values by value -/
inductive D where
  | non | bl (b : Bool) | int (i : Int) | str (x : Str)
  | tup (t : Bool) (ds : List D)
  | lst (ds : List D)
  | fl (ds : List D)
  | dK (ks : List Key) (ds : List D)
  | dT (ks : List (List Key)) (ds : List D)
inductive W where
  | v (d : D) | ref (k : Nat)
inductive C where
  | lst (ws : List W)
  | dK (kvs : List (Key × W))
  | dT (kvs : List (List Key × W))
abbrev Sto := List C
abbrev Rho := List (Option W)

def KL (K : PySem.W.Frag) (a : Addr) (xs : List V) : Prop :=
  ∃ (o : Obj) (its : Array Value) (n : Nat), K.lookup a = some o ∧ o.cls = .type "list" ∧ o.dict = none ∧ o.data = .seq its n ∧ its.size ≤ sizeLine ∧ Vals xs its.toList
def TupAt (K : PySem.W.Frag) (H : Hp) (t : Bool) (a : Addr) (vs : List V) : Prop :=
  match t with
  | true => H a = some (.tup vs)
  | false => SqT K H a vs
def FlAt (K : PySem.W.Frag) (H : Hp) (a : Addr) (vs : List V) : Prop := (∃ o, H a = some (.frz o (.lst vs))) ∨ KL K a vs

mutual
def RD (K : PySem.W.Frag) (X : List Addr) (H : Hp) : D → V → Prop
  | .non, v => v = .non
  | .bl b, v => v = .bl b
  | .int i, v => v = .int i
  | .str x, v => v = .str x
  | .tup t ds, v => ∃ a vs, v = .ref a ∧ TupAt K H t a vs ∧ RDs K X H ds vs
  | .lst ds, v => ∃ a vs, v = .ref a ∧ H a = some (.lst vs) ∧ a ∉ X ∧ RDs K X H ds vs
  | .fl ds, v => ∃ a vs, v = .ref a ∧ FlAt K H a vs ∧ RDs K X H ds vs
  | .dK ks ds, v => ∃ a vs, v = .ref a ∧ H a = some (.dK (ks.zip vs)) ∧ a ∉ X ∧ ks.length = vs.length ∧ RDs K X H ds vs
  | .dT ks ds, v => ∃ a vs, v = .ref a ∧ H a = some (.dT (ks.zip vs)) ∧ a ∉ X ∧ ks.length = vs.length ∧ RDs K X H ds vs
def RDs (K : PySem.W.Frag) (X : List Addr) (H : Hp) : List D → List V → Prop
  | [], vs => vs = []
  | d :: ds, vs => ∃ x xs, vs = x :: xs ∧ RD K X H d x ∧ RDs K X H ds xs
end

theorem RDs.length {K : PySem.W.Frag} {X : List Addr} {H : Hp} : ∀ {ds : List D} {vs : List V}, RDs K X H ds vs → ds.length = vs.length
  | [], vs, h => by rw [RDs] at h; subst h; rfl
  | d :: ds, vs, h => by
    rw [RDs] at h
    obtain ⟨x, xs, rfl, _, h⟩ := h
    simp [RDs.length h]
theorem RDs.get {K : PySem.W.Frag} {X : List Addr} {H : Hp} : ∀ {ds : List D} {vs : List V} {i : Nat} {d : D}, RDs K X H ds vs → ds[i]? = some d → ∃ v, vs[i]? = some v ∧ RD K X H d v
  | [], vs, i, d, h, e => by simp at e
  | d :: ds, vs, 0, e, h, he => by
    rw [RDs] at h
    obtain ⟨x, xs, rfl, h1, h⟩ := h
    simp at he; subst he
    exact ⟨x, rfl, h1⟩
  | d :: ds, vs, i + 1, e, h, he => by
    rw [RDs] at h
    obtain ⟨x, xs, rfl, h1, h⟩ := h
    simpa using RDs.get h (by simpa using he)

/-! ## steps -/
structure Stp (m : List Addr) (H : Hp) (m' : List Addr) (H' : Hp) : Prop where
  pre : ∃ e, m' = m ++ e
  keep : ∀ a o, H a = some o → a ∉ m → H' a = some o
  new : ∀ a, a ∈ m' → a ∉ m → H a = none
/-- the cells are what may be written; the foreign ones too -/
structure Kd (ex m : List Addr) (H : Hp) : Prop where
  cell : ∀ a, a ∈ m → Mut (H a)
  disj : ∀ a, a ∈ m → a ∉ ex
  fore : ∀ a, a ∈ ex → Mut (H a)
theorem Stp.refl {m : List Addr} {H : Hp} : Stp m H m H := ⟨⟨[], by simp⟩, fun _ _ h _ => h, fun _ h n => absurd h n⟩
theorem Stp.mem {m m' : List Addr} {H H' : Hp} (s : Stp m H m' H') {a : Addr} (h : a ∈ m) : a ∈ m' := by
  obtain ⟨e, rfl⟩ := s.pre
  exact List.mem_append_left _ h
theorem Stp.trans {m m1 m2 : List Addr} {H H1 H2 : Hp} (s : Stp m H m1 H1) (t : Stp m1 H1 m2 H2) : Stp m H m2 H2 := by
  refine ⟨?_, fun a o h n => ?_, fun a h n => ?_⟩
  · obtain ⟨e, rfl⟩ := s.pre
    obtain ⟨f, rfl⟩ := t.pre
    exact ⟨e ++ f, by simp⟩
  · refine t.keep a o (s.keep a o h n) fun h1 => ?_
    rw [s.new a h1 n] at h
    cases h
  · by_cases h1 : a ∈ m1
    · exact s.new a h1 n
    · have h2 := t.new a h h1
      cases q : H a with
      | none => rfl
      | some o =>
        rw [s.keep a o q n] at h2
        cases h2
theorem Mut.not_tup {o : HO} {vs : List V} (h : Mut (some o)) : o ≠ .tup vs := by
  intro e
  subst e
  exact h
theorem Kd.tup {ex m : List Addr} {H : Hp} (k : Kd ex m H) {a : Addr} {vs : List V} (h : H a = some (.tup vs)) : a ∉ m := fun hm => by
  have := k.cell a hm
  rw [h] at this
  exact this
theorem Kd.frz {ex m : List Addr} {H : Hp} (k : Kd ex m H) {a : Addr} {o : Obj} {u : HO} (h : H a = some (.frz o u)) : a ∉ m := fun hm => by
  have := k.cell a hm
  rw [h] at this
  exact this
theorem tupAt_mono {K : PySem.W.Frag} {ex m m' : List Addr} {H H' : Hp} {t : Bool} {a : Addr} {vs : List V} (k : Kd ex m H) (s : Stp m H m' H') (h : TupAt K H t a vs) : TupAt K H' t a vs := by
  cases t with
  | true =>
    have h : H a = some (.tup vs) := h
    exact s.keep a _ h (k.tup h)
  | false =>
    have h : SqT K H a vs := h
    show SqT K H' a vs
    rcases h with (h | ⟨o, h⟩) | h
    · exact .inl (.inl (s.keep a _ h (k.tup h)))
    · exact .inl (.inr ⟨o, s.keep a _ h (k.frz h)⟩)
    · exact .inr h
theorem flAt_mono {K : PySem.W.Frag} {ex m m' : List Addr} {H H' : Hp} {a : Addr} {vs : List V} (k : Kd ex m H) (s : Stp m H m' H') (h : FlAt K H a vs) : FlAt K H' a vs := by
  rcases h with ⟨o, h⟩ | h
  · exact .inl ⟨o, s.keep a _ h (k.frz h)⟩
  · exact .inr h
theorem Stp.out {ex m m' : List Addr} {H H' : Hp} {a : Addr} {o : HO} (s : Stp m H m' H') (h : H a = some o) (n : a ∉ ex ++ m) : a ∉ ex ++ m' := by
  simp only [List.mem_append, not_or] at n ⊢
  refine ⟨n.1, fun h' => ?_⟩
  rw [s.new a h' n.2] at h
  cases h
mutual
theorem RD.mono {K : PySem.W.Frag} {ex m m' : List Addr} {H H' : Hp} (k : Kd ex m H) (s : Stp m H m' H') : ∀ (d : D) (v : V), RD K (ex ++ m) H d v → RD K (ex ++ m') H' d v
  | .non, v, h => by rw [RD] at h ⊢; exact h
  | .bl b, v, h => by rw [RD] at h ⊢; exact h
  | .int i, v, h => by rw [RD] at h ⊢; exact h
  | .str x, v, h => by rw [RD] at h ⊢; exact h
  | .tup t ds, v, h => by
    rw [RD] at h ⊢
    obtain ⟨a, vs, e, h1, h2⟩ := h
    exact ⟨a, vs, e, tupAt_mono k s h1, RDs.mono k s ds vs h2⟩
  | .lst ds, v, h => by
    rw [RD] at h ⊢
    obtain ⟨a, vs, e, h1, h2, h3⟩ := h
    exact ⟨a, vs, e, s.keep a _ h1 (fun z => h2 (List.mem_append_right _ z)), s.out h1 h2, RDs.mono k s ds vs h3⟩
  | .fl ds, v, h => by
    rw [RD] at h ⊢
    obtain ⟨a, vs, e, h1, h2⟩ := h
    exact ⟨a, vs, e, flAt_mono k s h1, RDs.mono k s ds vs h2⟩
  | .dK ks ds, v, h => by
    rw [RD] at h ⊢
    obtain ⟨a, vs, e, h1, h2, hl, h3⟩ := h
    exact ⟨a, vs, e, s.keep a _ h1 (fun z => h2 (List.mem_append_right _ z)), s.out h1 h2, hl, RDs.mono k s ds vs h3⟩
  | .dT ks ds, v, h => by
    rw [RD] at h ⊢
    obtain ⟨a, vs, e, h1, h2, hl, h3⟩ := h
    exact ⟨a, vs, e, s.keep a _ h1 (fun z => h2 (List.mem_append_right _ z)), s.out h1 h2, hl, RDs.mono k s ds vs h3⟩
theorem RDs.mono {K : PySem.W.Frag} {ex m m' : List Addr} {H H' : Hp} (k : Kd ex m H) (s : Stp m H m' H') : ∀ (ds : List D) (vs : List V), RDs K (ex ++ m) H ds vs → RDs K (ex ++ m') H' ds vs
  | [], vs, h => by rw [RDs] at h ⊢; exact h
  | d :: ds, vs, h => by
    rw [RDs] at h ⊢
    obtain ⟨x, xs, e, h1, h2⟩ := h
    exact ⟨x, xs, e, RD.mono k s d x h1, RDs.mono k s ds xs h2⟩
end
mutual
theorem RD.less {K : PySem.W.Frag} {X Y : List Addr} {H : Hp} (s : ∀ a, a ∈ Y → a ∈ X) : ∀ (d : D) (v : V), RD K X H d v → RD K Y H d v
  | .non, v, h => by rw [RD] at h ⊢; exact h
  | .bl b, v, h => by rw [RD] at h ⊢; exact h
  | .int i, v, h => by rw [RD] at h ⊢; exact h
  | .str x, v, h => by rw [RD] at h ⊢; exact h
  | .tup t ds, v, h => by
    rw [RD] at h ⊢
    obtain ⟨a, vs, e, h1, h2⟩ := h
    exact ⟨a, vs, e, h1, RDs.less s ds vs h2⟩
  | .lst ds, v, h => by
    rw [RD] at h ⊢
    obtain ⟨a, vs, e, h1, h2, h3⟩ := h
    exact ⟨a, vs, e, h1, fun z => h2 (s a z), RDs.less s ds vs h3⟩
  | .fl ds, v, h => by
    rw [RD] at h ⊢
    obtain ⟨a, vs, e, h1, h2⟩ := h
    exact ⟨a, vs, e, h1, RDs.less s ds vs h2⟩
  | .dK ks ds, v, h => by
    rw [RD] at h ⊢
    obtain ⟨a, vs, e, h1, h2, hl, h3⟩ := h
    exact ⟨a, vs, e, h1, fun z => h2 (s a z), hl, RDs.less s ds vs h3⟩
  | .dT ks ds, v, h => by
    rw [RD] at h ⊢
    obtain ⟨a, vs, e, h1, h2, hl, h3⟩ := h
    exact ⟨a, vs, e, h1, fun z => h2 (s a z), hl, RDs.less s ds vs h3⟩
theorem RDs.less {K : PySem.W.Frag} {X Y : List Addr} {H : Hp} (s : ∀ a, a ∈ Y → a ∈ X) : ∀ (ds : List D) (vs : List V), RDs K X H ds vs → RDs K Y H ds vs
  | [], vs, h => by rw [RDs] at h ⊢; exact h
  | d :: ds, vs, h => by
    rw [RDs] at h ⊢
    obtain ⟨x, xs, e, h1, h2⟩ := h
    exact ⟨x, xs, e, RD.less s d x h1, RDs.less s ds xs h2⟩
end

/-! ## values with cells, the store -/
def RW (K : PySem.W.Frag) (ex m : List Addr) (H : Hp) : W → V → Prop
  | .v d, x => RD K (ex ++ m) H d x
  | .ref k, x => ∃ a, x = .ref a ∧ m[k]? = some a
def RWs (K : PySem.W.Frag) (ex m : List Addr) (H : Hp) (ws : List W) (vs : List V) : Prop := Paired (RW K ex m H) ws vs
def CellOk (K : PySem.W.Frag) (ex m : List Addr) (H : Hp) (a : Addr) : C → Prop
  | .lst ws => ∃ vs, H a = some (.lst vs) ∧ RWs K ex m H ws vs
  | .dK kvs => ∃ xs : List (Key × V), H a = some (.dK xs) ∧ Paired (fun p q => p.1 = q.1 ∧ RW K ex m H p.2 q.2) kvs xs
  | .dT kvs => ∃ xs : List (List Key × V), H a = some (.dT xs) ∧ Paired (fun p q => p.1 = q.1 ∧ RW K ex m H p.2 q.2) kvs xs
structure Rel (K : PySem.W.Frag) (ex m : List Addr) (S : Sto) (H : Hp) : Prop where
  len : m.length = S.length
  nd : m.Nodup
  kd : Kd ex m H
  cells : ∀ (k : Nat) (c : C) (a : Addr), S[k]? = some c → m[k]? = some a → CellOk K ex m H a c
section
variable {K : PySem.W.Frag} {ex m m' : List Addr} {S S' : Sto} {H H' : Hp} {σ : L2.St} {ρ : Rho}
theorem RW.mono (k : Kd ex m H) (s : Stp m H m' H') : ∀ (w : W) (v : V), RW K ex m H w v → RW K ex m' H' w v
  | .v d, v, h => RD.mono k s d v h
  | .ref i, v, h => by
    obtain ⟨a, e, h⟩ := h
    obtain ⟨f, rfl⟩ := s.pre
    refine ⟨a, e, ?_⟩
    rw [List.getElem?_append_left (List.getElem?_eq_some_iff.mp h).1]
    exact h
theorem RWs.mono (k : Kd ex m H) (s : Stp m H m' H') {ws : List W} {vs : List V} (h : RWs K ex m H ws vs) : RWs K ex m' H' ws vs := Paired.mapP h fun a b q => RW.mono k s a b q
theorem CellOk.mono (k : Kd ex m H) (s : Stp m H m' H') {a : Addr} : ∀ {c : C}, CellOk K ex m H a c → H' a = H a → CellOk K ex m' H' a c
  | .lst ws, ⟨vs, e, r⟩, q => ⟨vs, q.trans e, r.mono k s⟩
  | .dK kvs, ⟨xs, e, r⟩, q => ⟨xs, q.trans e, Paired.mapP r fun a b z => ⟨z.1, RW.mono k s _ _ z.2⟩⟩
  | .dT kvs, ⟨xs, e, r⟩, q => ⟨xs, q.trans e, Paired.mapP r fun a b z => ⟨z.1, RW.mono k s _ _ z.2⟩⟩
theorem Rel.at_ (r : Rel K ex m S H) {k : Nat} {c : C} (h : S[k]? = some c) : ∃ a, m[k]? = some a ∧ CellOk K ex m H a c := by
  have hk : k < m.length := by rw [r.len]; exact (List.getElem?_eq_some_iff.mp h).1
  exact ⟨m[k], List.getElem?_eq_getElem hk, r.cells k c _ h (List.getElem?_eq_getElem hk)⟩
/-- an object that is no cell is laid -/
theorem Rel.laid (r : Rel K ex m S H) {p : Addr} {o : HO} (hp : H p = none) : Rel K ex m S (upd H p o) ∧ Stp m H m (upd H p o) := by
  have st : Stp m H m (upd H p o) := ⟨⟨[], by simp⟩, fun a u h _ => by rw [upd_ne (ne_of_none h hp)]; exact h, fun _ h n => absurd h n⟩
  have ne : ∀ a, Mut (H a) → a ≠ p := fun a h e => by subst e; rw [hp] at h; exact h
  refine ⟨⟨r.len, r.nd, ⟨fun a h => ?_, r.kd.disj, fun a h => ?_⟩, fun k c a h1 h2 => ?_⟩, st⟩
  · rw [upd_ne (ne a (r.kd.cell a h))]; exact r.kd.cell a h
  · rw [upd_ne (ne a (r.kd.fore a h))]; exact r.kd.fore a h
  · exact (r.cells k c a h1 h2).mono r.kd st (upd_ne (ne a (r.kd.cell a (List.mem_of_getElem? h2))))
/-- a new cell -/
theorem Rel.cell (r : Rel K ex m S H) {p : Addr} {o : HO} {c : C} (hp : H p = none) (mu : Mut (some o)) (ok : Stp m H (m ++ [p]) (upd H p o) → CellOk K ex (m ++ [p]) (upd H p o) p c) :
    Rel K ex (m ++ [p]) (S ++ [c]) (upd H p o) ∧ Stp m H (m ++ [p]) (upd H p o) := by
  have st : Stp m H (m ++ [p]) (upd H p o) := ⟨⟨[p], rfl⟩, fun a u h _ => by rw [upd_ne (ne_of_none h hp)]; exact h, fun a h n => by
    rcases List.mem_append.mp h with h | h
    · exact absurd h n
    · have e : a = p := by simpa using h
      subst e; exact hp⟩
  have ne : ∀ a, Mut (H a) → a ≠ p := fun a h e => by subst e; rw [hp] at h; exact h
  have npm : p ∉ m := fun h => ne p (r.kd.cell p h) rfl
  refine ⟨⟨by simp [r.len], ?_, ⟨fun a h => ?_, fun a h => ?_, fun a h => ?_⟩, fun k d a h1 h2 => ?_⟩, st⟩
  · rw [List.nodup_append]
    refine ⟨r.nd, by simp, fun a ha b hb e => ?_⟩
    have e' : b = p := by simpa using hb
    subst e; subst e'; exact npm ha
  · by_cases e : a = p
    · subst e; rw [upd_same]; exact mu
    · rw [upd_ne e]
      rcases List.mem_append.mp h with h | h
      · exact r.kd.cell a h
      · exact absurd (by simpa using h) e
  · rcases List.mem_append.mp h with h | h
    · exact r.kd.disj a h
    · have e : a = p := by simpa using h
      subst e
      exact fun z => ne a (r.kd.fore a z) rfl
  · rw [upd_ne (ne a (r.kd.fore a h))]; exact r.kd.fore a h
  · by_cases hk : k < S.length
    · rw [List.getElem?_append_left hk] at h1
      rw [List.getElem?_append_left (by rw [r.len]; exact hk)] at h2
      exact (r.cells k d a h1 h2).mono r.kd st (upd_ne (ne a (r.kd.cell a (List.mem_of_getElem? h2))))
    · have e1 : k = S.length := by
        have := (List.getElem?_eq_some_iff.mp h1).1
        simp at this; omega
      subst e1
      rw [List.getElem?_append_right (Nat.le_refl _)] at h1
      rw [List.getElem?_append_right (by rw [r.len]; exact Nat.le_refl _)] at h2
      simp [r.len] at h1 h2
      subst h1; subst h2
      exact ok st
/-- a cell written -/
theorem Rel.write (r : Rel K ex m S H) {k : Nat} {a : Addr} {o : HO} {c : C} (hk : m[k]? = some a) (mu : Mut (some o)) (ok : Stp m H m (upd H a o) → CellOk K ex m (upd H a o) a c) :
    Rel K ex m (S.set k c) (upd H a o) ∧ Stp m H m (upd H a o) := by
  have ha : a ∈ m := List.mem_of_getElem? hk
  have st : Stp m H m (upd H a o) := ⟨⟨[], by simp⟩, fun b u h n => by rw [upd_ne (fun e => n (by rw [e]; exact ha))]; exact h, fun _ h n => absurd h n⟩
  refine ⟨⟨by simp [r.len], r.nd, ⟨fun b h => ?_, r.kd.disj, fun b h => ?_⟩, fun j d b h1 h2 => ?_⟩, st⟩
  · by_cases e : b = a
    · subst e; rw [upd_same]; exact mu
    · rw [upd_ne e]; exact r.kd.cell b h
  · rw [upd_ne (fun e => r.kd.disj a ha (by rw [← e]; exact h))]; exact r.kd.fore b h
  · by_cases e : j = k
    · subst e
      rw [hk] at h2; cases h2
      have hl : j < S.length := by rw [← r.len]; exact (List.getElem?_eq_some_iff.mp hk).1
      rw [List.getElem?_set_self hl] at h1; cases h1
      exact ok st
    · rw [List.getElem?_set_ne (Ne.symm e)] at h1
      have nb : b ≠ a := fun z => by
        subst z
        exact e ((List.getElem?_inj (List.getElem?_eq_some_iff.mp h2).1 r.nd).mp (h2.trans hk.symm))
      exact (r.cells j d b h1 h2).mono r.kd st (upd_ne nb)

/-! ## slots -/
def RE (K : PySem.W.Frag) (ex m : List Addr) (H : Hp) (ρ : Rho) (σ : L2.St) : Prop := ρ.length = σ.length ∧ ∀ (i : Nat) (w : W), ρ[i]? = some (some w) → ∃ v, σ[i]? = some (some v) ∧ RW K ex m H w v
theorem RE.mono (k : Kd ex m H) (s : Stp m H m' H') (h : RE K ex m H ρ σ) : RE K ex m' H' ρ σ := ⟨h.1, fun i w e => by
  obtain ⟨v, e', r⟩ := h.2 i w e
  exact ⟨v, e', RW.mono k s w v r⟩⟩
theorem RE.set (h : RE K ex m H ρ σ) (i : Nat) {w : W} {v : V} (r : RW K ex m H w v) : RE K ex m H (ρ.set i (some w)) (σ.set i (some v)) := by
  refine ⟨by simp [h.1], fun j u e => ?_⟩
  by_cases hj : j = i
  · subst hj
    have hl : j < ρ.length := by
      have := (List.getElem?_eq_some_iff.mp e).1
      simpa using this
    rw [List.getElem?_set_self hl] at e
    cases e
    exact ⟨v, by rw [List.getElem?_set_self (by rw [← h.1]; exact hl)], r⟩
  · rw [List.getElem?_set_ne (Ne.symm hj)] at e ⊢
    exact h.2 j u e
end
end Fy
namespace Fy
open PySem PySem.Spec PyProof.Rows L2

abbrev XE := Rho → Sto → Option (W × Sto)
abbrev XT := Rho → Sto → Option (Bool × Sto)
abbrev XA := Rho → Sto → Option (List W × Sto)
/-- a list's bound, far below the machine's -/
def LIM : Nat := 1000000
theorem lim_le : LIM ≤ sizeLine := by rw [sizeLine_eq]; decide
theorem lim_lt : LIM < sizeLine := by rw [sizeLine_eq]; decide

def tM (K : PySem.W.Frag) (f : XE) : TE := fun σ H Q => ∃ ex ρ m S w S', Rel K ex m S H ∧ RE K ex m H ρ σ ∧ f ρ S = some (w, S') ∧
  ∀ v m' H', Stp m H m' H' → Rel K ex m' S' H' → RW K ex m' H' w v → Q v H'
def tMT (K : PySem.W.Frag) (f : XT) : TT := fun σ H Q => ∃ ex ρ m S b S', Rel K ex m S H ∧ RE K ex m H ρ σ ∧ f ρ S = some (b, S') ∧
  ∀ m' H', Stp m H m' H' → Rel K ex m' S' H' → Q b H'
def tMA (K : PySem.W.Frag) (f : XA) : TA := fun σ H Q => ∃ ex ρ m S ws S', Rel K ex m S H ∧ RE K ex m H ρ σ ∧ f ρ S = some (ws, S') ∧
  ∀ vs m' H', Stp m H m' H' → Rel K ex m' S' H' → RWs K ex m' H' ws vs → Q vs H'
/-- a new list -/
def tML (K : PySem.W.Frag) (f : XA) : TE := fun σ H Q => ∃ ex ρ m S ws S', Rel K ex m S H ∧ RE K ex m H ρ σ ∧ f ρ S = some (ws, S') ∧
  ∀ p vs m' H', Stp m H m' H' → Rel K (p :: ex) m' S' H' → H p = none → H' p = some (.lst vs) → RWs K (p :: ex) m' H' ws vs → Q (.ref p) H'

theorem PE.imp {X : Cx} {e : Expr} {t t' : TE} (h : PE X e t') (i : ∀ σ H Q, t σ H Q → t' σ H Q) : PE X e t := ⟨fun pins s σ H Q I q => h.run pins s σ H Q I (i σ H Q q)⟩
theorem PT.imp {X : Cx} {e : Expr} {t t' : TT} (h : PT X e t') (i : ∀ σ H Q, t σ H Q → t' σ H Q) : PT X e t := ⟨fun pins s σ H Q I q => h.run pins s σ H Q I (i σ H Q q)⟩
theorem PW.imp {X : Cx} {e : Expr} {t t' : TT} (h : PW X e t') (i : ∀ σ H Q, t σ H Q → t' σ H Q) : PW X e t := ⟨fun wh pins s σ H Q I q => h.run wh pins s σ H Q I (i σ H Q q)⟩
theorem PA.imp {X : Cx} {e : List Expr} {t t' : TA} (h : PA X e t') (i : ∀ σ H Q, t σ H Q → t' σ H Q) : PA X e t := ⟨fun pos pins s σ H Q I q => h.run pos pins s σ H Q I (i σ H Q q)⟩

theorem Stp.fresh {K : PySem.W.Frag} {ex m m' : List Addr} {H H' : Hp} {S' : Sto} (kd : Kd ex m H) (s : Stp m H m' H') (r : Rel K ex m' S' H') {p : Addr} (hp : H' p = none) : H p = none ∧ p ∉ ex ++ m' := by
  have nm : p ∉ m' := fun h => by
    have := r.kd.cell p h
    rw [hp] at this; exact this
  have nx : p ∉ ex := fun h => by
    have := r.kd.fore p h
    rw [hp] at this; exact this
  refine ⟨?_, fun h => (List.mem_append.mp h).elim nx nm⟩
  cases q : H p with
  | none => rfl
  | some o =>
    have n : p ∉ m := fun h => nm (s.mem h)
    rw [s.keep p o q n] at hp
    cases hp

/-! ## names, constants -/
def xvar (i : Nat) : XE := fun ρ S => (ρ[i]?.join).map fun w => (w, S)
def xc (d : D) : XE := fun _ S => some (.v d, S)
section
variable {X : Cx} {e a b c : Expr} {pos : Pos}
theorem xe_var {i : Nat} {x : Str} (hN : X.N[i]? = some x) (hv : Vis X.env.scope x) (hd : (x == ("__debug__" : Str)) = false := by decide) (hcd : (x == ("__classdict__" : Str)) = false := by decide) : PE X (.Name x pos) (tM X.K (xvar i)) := by
  refine PE.imp (pe_var hN hv hd hcd) fun σ H Q ⟨ex, ρ, m, S, w, S', R, E, hf, q⟩ => ?_
  unfold xvar at hf
  cases h : ρ[i]? with
  | none => rw [h] at hf; cases hf
  | some o =>
    rw [h] at hf
    cases o with
    | none => cases hf
    | some w' =>
      have hf : some (w', S) = some (w, S') := hf
      cases hf
      obtain ⟨v, e1, r⟩ := E.2 i w h
      exact ⟨v, e1, q v m H Stp.refl R r⟩
theorem tM_c {K : PySem.W.Frag} {d : D} {v : V} {σ : L2.St} {H : Hp} {Q : VK} (hv : ∀ X H, RD K X H d v) (h : tM K (xc d) σ H Q) : Q v H := by
  obtain ⟨ex, ρ, m, S, w, S', R, E, hf, q⟩ := h
  have hf : some (W.v d, S) = some (w, S') := hf
  cases hf
  exact q v m H Stp.refl R (hv _ _)
theorem xe_int {i : Int} {j : Nat} : PE X (.Constant (.int i) j pos) (tM X.K (xc (.int i))) := PE.imp pe_int fun σ H Q h => tM_c (fun _ _ => by rw [RD]) h
theorem xe_bl {i : Bool} {j : Nat} : PE X (.Constant (.bool i) j pos) (tM X.K (xc (.bl i))) := PE.imp pe_bl fun σ H Q h => tM_c (fun _ _ => by rw [RD]) h
theorem xe_non {j : Nat} : PE X (.Constant .none j pos) (tM X.K (xc .non)) := PE.imp pe_non fun σ H Q h => tM_c (fun _ _ => by rw [RD]) h
theorem xe_str {i : Str} {j : Nat} : PE X (.Constant (.str i) j pos) (tM X.K (xc (.str i))) := PE.imp pe_str fun σ H Q h => tM_c (fun _ _ => by rw [RD]) h
/-- a module's constant: gd: what the written part holds there -/
def GD (K : PySem.W.Frag) (u : Value) (d : D) : Prop := ∃ v, RelV v u ∧ ∀ X H, RD K X H d v
theorem xe_glob {x : Str} {u : Value} {d : D} (hg : Gl X x) (hm : X.mg x = some u) (g : GD X.K u d) (hd : (x == ("__debug__" : Str)) = false := by decide) : PE X (.Name x pos) (tM X.K (xc d)) := by
  obtain ⟨v, r, h⟩ := g
  exact PE.imp (pe_glob hg hm r hd) fun σ H Q q => tM_c h q

/-! ## two in a row -/
def xb (k : W → W → Sto → Option (W × Sto)) (a b : XE) : XE := fun ρ S => (a ρ S).bind fun p => (b ρ p.2).bind fun q => k p.1 q.1 q.2
def xop (f : Sto → W → W → Option W) : XE → XE → XE := xb fun x y S => (f S x y).map fun w => (w, S)
def xu (k : W → Sto → Option (W × Sto)) (a : XE) : XE := fun ρ S => (a ρ S).bind fun p => k p.1 p.2
def xun (f : Sto → W → Option W) : XE → XE := xu fun x S => (f S x).map fun w => (w, S)

/-- a two-place reading by values, the store kept -/
def rM (K : PySem.W.Frag) (f : Sto → W → W → Option W) : R2 := fun x y H Q => ∃ ex m S wx wy w, Rel K ex m S H ∧ RW K ex m H wx x ∧ RW K ex m H wy y ∧ f S wx wy = some w ∧
  ∀ v H', Stp m H m H' → Rel K ex m S H' → RW K ex m H' w v → Q v H'
def rU (K : PySem.W.Frag) (f : Sto → W → Option W) : V → Hp → VK → Prop := fun x H Q => ∃ ex m S wx w, Rel K ex m S H ∧ RW K ex m H wx x ∧ f S wx = some w ∧
  ∀ v H', Stp m H m H' → Rel K ex m S H' → RW K ex m H' w v → Q v H'
theorem tM_u {K : PySem.W.Frag} {k : W → Sto → Option (W × Sto)} {a : XE} {R : V → Hp → Prop} {σ : L2.St} {H : Hp} {Q : VK} (h : tM K (xu k a) σ H Q)
    (hk : ∀ ex ρ m S w x z S' (H1 : Hp), Rel K ex m S H1 → RE K ex m H1 ρ σ → RW K ex m H1 w x → k w S = some (z, S') → (∀ v m' H', Stp m H1 m' H' → Rel K ex m' S' H' → RW K ex m' H' z v → Q v H') → R x H1) : tM K a σ H R := by
  obtain ⟨ex, ρ, m, S, w, S', Rl, E, hf, q⟩ := h
  obtain ⟨⟨w1, S1⟩, h1, h2⟩ := Option.bind_eq_some_iff.mp hf
  refine ⟨ex, ρ, m, S, w1, S1, Rl, E, h1, fun v m' H' st R' rw => ?_⟩
  exact hk ex ρ m' S1 w1 v w S' H' R' (E.mono Rl.kd st) rw h2 fun v2 m2 H2 st2 R2 r2 => q v2 m2 H2 (st.trans st2) R2 r2
theorem tM_b {K : PySem.W.Frag} {k : W → W → Sto → Option (W × Sto)} {a b : XE} {R : V → V → Hp → Prop} {σ : L2.St} {H : Hp} {Q : VK} (h : tM K (xb k a b) σ H Q)
    (hk : ∀ ex ρ m S wx wy x y z S' (H1 : Hp), Rel K ex m S H1 → RE K ex m H1 ρ σ → RW K ex m H1 wx x → RW K ex m H1 wy y → k wx wy S = some (z, S') → (∀ v m' H', Stp m H1 m' H' → Rel K ex m' S' H' → RW K ex m' H' z v → Q v H') → R x y H1) : tM K a σ H fun x H1 => tM K b σ H1 fun y H2 => R x y H2 := by
  obtain ⟨ex, ρ, m, S, w, S', Rl, E, hf, q⟩ := h
  obtain ⟨⟨w1, S1⟩, h1, h2⟩ := Option.bind_eq_some_iff.mp hf
  obtain ⟨⟨w2, S2⟩, h3, h4⟩ := Option.bind_eq_some_iff.mp h2
  refine ⟨ex, ρ, m, S, w1, S1, Rl, E, h1, fun v m' H' st R' rw => ?_⟩
  refine ⟨ex, ρ, m', S1, w2, S2, R', E.mono Rl.kd st, h3, fun v2 m2 H2 st2 R2 rw2 => ?_⟩
  exact hk ex ρ m2 S2 w1 w2 v v2 w S' H2 R2 (E.mono Rl.kd (st.trans st2)) (RW.mono R'.kd st2 _ _ rw) rw2 h4 fun v3 m3 H3 st3 R3 r3 => q v3 m3 H3 ((st.trans st2).trans st3) R3 r3
theorem tM_op {K : PySem.W.Frag} {f : Sto → W → W → Option W} {a b : XE} {σ : L2.St} {H : Hp} {Q : VK} (h : tM K (xop f a b) σ H Q) : tOp (rM K f) (tM K a) (tM K b) σ H Q := by
  refine tM_b h fun ex ρ m S wx wy x y z S' H1 R E r1 r2 hk q => ?_
  obtain ⟨w, h1, h2⟩ := Option.map_eq_some_iff.mp hk
  cases h2
  exact ⟨ex, m, S, wx, wy, z, R, r1, r2, h1, fun v H' st R' r => q v m H' st R' r⟩
theorem tM_un {K : PySem.W.Frag} {f : Sto → W → Option W} {a : XE} {σ : L2.St} {H : Hp} {Q : VK} (h : tM K (xun f a) σ H Q) : tUn (rU K f) (tM K a) σ H Q := by
  refine tM_u h fun ex ρ m S wx x z S' H1 R E r1 hk q => ?_
  obtain ⟨w, h1, h2⟩ := Option.map_eq_some_iff.mp hk
  cases h2
  exact ⟨ex, m, S, wx, z, R, r1, h1, fun v H' st R' r => q v m H' st R' r⟩
theorem xe_op {op : Operator} {f : Sto → W → W → Option W} {fa fb : XE} (ho : OpR X (binaryOp op) (rM X.K f)) (ha : PE X a (tM X.K fa)) (hb : PE X b (tM X.K fb)) : PE X (.BinOp a op b pos) (tM X.K (xop f fa fb)) :=
  PE.imp (pe_op ho ha hb) fun _ _ _ h => tM_op h
theorem xe_un {op : UnaryOp} {f : Sto → W → Option W} {fa : XE} (ho : UnR X (unaryOp op) (rU X.K f)) (ha : PE X a (tM X.K fa)) : PE X (.UnaryOp op a pos) (tM X.K (xun f fa)) :=
  PE.imp (pe_un ho ha) fun _ _ _ h => tM_un h
theorem xe_cmp {op : CmpOp} {f : Sto → W → W → Option W} {fa fb : XE} (ho : OpR X (compareOp op) (rM X.K f)) (ha : PE X a (tM X.K fa)) (hb : PE X b (tM X.K fb)) (hm : behindInMarks op b = false) : PE X (.Compare a [op] [b] pos) (tM X.K (xop f fa fb)) :=
  PE.imp (pe_cmpR ho ha hb hm) fun _ _ _ h => tM_op h

/-! ## tests -/
def xtb (a : XE) : XT := fun ρ S => (a ρ S).bind fun p => match p.1 with | .v (.bl b) => some (b, p.2) | _ => none
def xtand (a b : XT) : XT := fun ρ S => (a ρ S).bind fun p => if p.1 = true then b ρ p.2 else some (false, p.2)
def xtor (a b : XT) : XT := fun ρ S => (a ρ S).bind fun p => if p.1 = true then some (true, p.2) else b ρ p.2
def xtnot (a : XT) : XT := fun ρ S => (a ρ S).map fun p => (!p.1, p.2)
theorem tMT_b {K : PySem.W.Frag} {a : XE} {σ : L2.St} {H : Hp} {Q : Bool → Hp → Prop} (h : tMT K (xtb a) σ H Q) : tM K a σ H fun x H1 => ∃ c, x = .bl c ∧ Q c H1 := by
  obtain ⟨ex, ρ, m, S, b, S', Rl, E, hf, q⟩ := h
  obtain ⟨⟨w1, S1⟩, h1, h2⟩ := Option.bind_eq_some_iff.mp hf
  refine ⟨ex, ρ, m, S, w1, S1, Rl, E, h1, fun v m' H' st R' rw => ?_⟩
  cases w1 with
  | ref k => cases h2
  | v d =>
    cases d with
    | bl c =>
      have h2 : some (c, S1) = some (b, S') := h2
      cases h2
      have rw : RD K (ex ++ m') H' (.bl b) v := rw
      rw [RD] at rw
      exact ⟨b, rw, q m' H' st R'⟩
    | _ => cases h2
theorem xt_cmp {op : CmpOp} {f : Sto → W → W → Option W} {fa fb : XE} (ho : OpR X (compareOp op) (rM X.K f)) (ha : PE X a (tM X.K fa)) (hb : PE X b (tM X.K fb)) (hm : behindInMarks op b = false) : PT X (.Compare a [op] [b] pos) (tMT X.K (xtb (xop f fa fb))) := by
  refine PT.imp (pt_cmpR ho ha hb hm) fun σ H Q h => ?_
  have := tMT_b h
  exact tM_op this
theorem tMT_and {K : PySem.W.Frag} {a b : XT} {σ : L2.St} {H : Hp} {Q : Bool → Hp → Prop} (h : tMT K (xtand a b) σ H Q) : tAnd (tMT K a) (tMT K b) σ H Q := by
  obtain ⟨ex, ρ, m, S, c, S', Rl, E, hf, q⟩ := h
  obtain ⟨⟨b1, S1⟩, h1, h2⟩ := Option.bind_eq_some_iff.mp hf
  refine ⟨ex, ρ, m, S, b1, S1, Rl, E, h1, fun m' H' st R' => ?_⟩
  cases b1 with
  | true => exact ⟨ex, ρ, m', S1, c, S', R', E.mono Rl.kd st, h2, fun m2 H2 st2 R2 => q m2 H2 (st.trans st2) R2⟩
  | false =>
    have h2 : some (false, S1) = some (c, S') := h2
    cases h2
    exact q m' H' st R'
theorem tMT_or {K : PySem.W.Frag} {a b : XT} {σ : L2.St} {H : Hp} {Q : Bool → Hp → Prop} (h : tMT K (xtor a b) σ H Q) : tOr (tMT K a) (tMT K b) σ H Q := by
  obtain ⟨ex, ρ, m, S, c, S', Rl, E, hf, q⟩ := h
  obtain ⟨⟨b1, S1⟩, h1, h2⟩ := Option.bind_eq_some_iff.mp hf
  refine ⟨ex, ρ, m, S, b1, S1, Rl, E, h1, fun m' H' st R' => ?_⟩
  cases b1 with
  | false => exact ⟨ex, ρ, m', S1, c, S', R', E.mono Rl.kd st, h2, fun m2 H2 st2 R2 => q m2 H2 (st.trans st2) R2⟩
  | true =>
    have h2 : some (true, S1) = some (c, S') := h2
    cases h2
    exact q m' H' st R'
theorem xw_and1 {fa : XT} (ha : PT X a (tMT X.K fa)) : PW X (.BoolOp .And [a] pos) (tMT X.K fa) := pw_and1 ha
theorem xw_or1 {fa : XT} (ha : PT X a (tMT X.K fa)) : PW X (.BoolOp .Or [a] pos) (tMT X.K fa) := pw_or1 ha
theorem xw_and {rest : List Expr} {fa fb : XT} (ha : PT X a (tMT X.K fa)) (hb : PW X (.BoolOp .And (b :: rest) pos) (tMT X.K fb)) : PW X (.BoolOp .And (a :: b :: rest) pos) (tMT X.K (xtand fa fb)) := PW.imp (pw_and ha hb) fun _ _ _ h => tMT_and h
theorem xw_or {rest : List Expr} {fa fb : XT} (ha : PT X a (tMT X.K fa)) (hb : PW X (.BoolOp .Or (b :: rest) pos) (tMT X.K fb)) : PW X (.BoolOp .Or (a :: b :: rest) pos) (tMT X.K (xtor fa fb)) := PW.imp (pw_or ha hb) fun _ _ _ h => tMT_or h
theorem xt_not {fa : XT} (ha : PT X a (tMT X.K fa)) : PT X (.UnaryOp .Not a pos) (tMT X.K (xtnot fa)) := by
  refine PT.imp (pt_not ha) fun σ H Q ⟨ex, ρ, m, S, c, S', Rl, E, hf, q⟩ => ?_
  obtain ⟨⟨b1, S1⟩, h1, h2⟩ := Option.map_eq_some_iff.mp hf
  cases h2
  exact ⟨ex, ρ, m, S, b1, S1, Rl, E, h1, q⟩
/-- a test as a value: not, a chain -/
def xif (t : XT) (a b : XE) : XE := fun ρ S => (t ρ S).bind fun p => if p.1 = true then a ρ p.2 else b ρ p.2
theorem xe_ifExp {ft : XT} {fa fb : XE} (hc : PT X c (tMT X.K ft)) (ha : PE X a (tM X.K fa)) (hb : PE X b (tM X.K fb)) : PE X (.IfExp c a b pos) (tM X.K (xif ft fa fb)) := by
  refine PE.imp (pe_ifExp hc ha hb) fun σ H Q ⟨ex, ρ, m, S, w, S', Rl, E, hf, q⟩ => ?_
  obtain ⟨⟨b1, S1⟩, h1, h2⟩ := Option.bind_eq_some_iff.mp hf
  refine ⟨ex, ρ, m, S, b1, S1, Rl, E, h1, fun m' H' st R' => ?_⟩
  cases b1 with
  | true => exact ⟨ex, ρ, m', S1, w, S', R', E.mono Rl.kd st, h2, fun v m2 H2 st2 R2 r2 => q v m2 H2 (st.trans st2) R2 r2⟩
  | false => exact ⟨ex, ρ, m', S1, w, S', R', E.mono Rl.kd st, h2, fun v m2 H2 st2 R2 r2 => q v m2 H2 (st.trans st2) R2 r2⟩

/-! ## argument lists -/
def xnil : XA := fun _ S => some ([], S)
def xcons (a : XE) (r : XA) : XA := fun ρ S => (a ρ S).bind fun p => (r ρ p.2).map fun q => (p.1 :: q.1, q.2)
theorem xa_nil : PA X [] (tMA X.K xnil) := PA.imp pa_nil fun σ H Q ⟨ex, ρ, m, S, ws, S', Rl, E, hf, q⟩ => by
  have hf : some (([] : List W), S) = some (ws, S') := hf
  cases hf
  exact q [] m H Stp.refl Rl .nil
theorem xa_cons {es : List Expr} {fa : XE} {fr : XA} (ha : PE X e (tM X.K fa)) (hr : PA X es (tMA X.K fr)) (hs : starEach (e :: es) X.env = (false, eval e X.env) :: starEach es X.env := by rfl) : PA X (e :: es) (tMA X.K (xcons fa fr)) :=
  PA.imp (pa_cons ha hr hs) fun σ H Q ⟨ex, ρ, m, S, ws, S', Rl, E, hf, q⟩ => by
    obtain ⟨⟨w1, S1⟩, h1, h2⟩ := Option.bind_eq_some_iff.mp hf
    obtain ⟨⟨ws2, S2⟩, h3, h4⟩ := Option.map_eq_some_iff.mp h2
    cases h4
    refine ⟨ex, ρ, m, S, w1, S1, Rl, E, h1, fun v m' H' st R' rw => ?_⟩
    refine ⟨ex, ρ, m', S1, ws2, S2, R', E.mono Rl.kd st, h3, fun vs m2 H2 st2 R2 r2 => ?_⟩
    exact q (v :: vs) m2 H2 (st.trans st2) R2 (.cons (RW.mono R'.kd st2 _ _ rw) r2)

/-! ## values without cells -/
def toDs : List W → Option (List D)
  | [] => some []
  | .v d :: r => (toDs r).map (d :: ·)
  | .ref _ :: _ => none
theorem toDs_map : ∀ ds : List D, toDs (ds.map W.v) = some ds
  | [] => rfl
  | d :: ds => by show (toDs (ds.map W.v)).map (d :: ·) = _; rw [toDs_map ds]; rfl
theorem toDs_eq : ∀ {ws : List W} {ds : List D}, toDs ws = some ds → ws = ds.map W.v
  | [], ds, h => by cases h; rfl
  | .v d :: r, ds, h => by
    obtain ⟨es, h1, h2⟩ := Option.map_eq_some_iff.mp (show (toDs r).map (d :: ·) = some ds from h)
    subst h2
    rw [toDs_eq h1]; rfl
theorem RWs.ds {K : PySem.W.Frag} {ex m : List Addr} {H : Hp} : ∀ {ds : List D} {vs : List V}, RWs K ex m H (ds.map W.v) vs → RDs K (ex ++ m) H ds vs
  | [], _, h => by cases h; rw [RDs]
  | d :: ds, _, h => by
    cases h with
    | cons r t =>
      rw [RDs]
      exact ⟨_, _, rfl, r, RWs.ds t⟩
theorem RDs.ws {K : PySem.W.Frag} {ex m : List Addr} {H : Hp} : ∀ {ds : List D} {vs : List V}, RDs K (ex ++ m) H ds vs → RWs K ex m H (ds.map W.v) vs
  | [], _, h => by rw [RDs] at h; subst h; exact .nil
  | d :: ds, _, h => by
    rw [RDs] at h
    obtain ⟨x, xs, rfl, h1, h2⟩ := h
    exact .cons h1 (RDs.ws h2)
theorem RWs.length {K : PySem.W.Frag} {ex m : List Addr} {H : Hp} {ws : List W} {vs : List V} (h : RWs K ex m H ws vs) : ws.length = vs.length := Paired.length h
theorem RWs.get {K : PySem.W.Frag} {ex m : List Addr} {H : Hp} : ∀ {ws : List W} {vs : List V} {i : Nat} {w : W}, RWs K ex m H ws vs → ws[i]? = some w → ∃ v, vs[i]? = some v ∧ RW K ex m H w v
  | _, _, i, w, .nil, h => by simp at h
  | _, _, 0, w, .cons r t, h => by simp at h; subst h; exact ⟨_, rfl, r⟩
  | _, _, i + 1, w, .cons r t, h => by simpa using RWs.get t (by simpa using h)

mutual
theorem RD.fresh {K : PySem.W.Frag} {X : List Addr} {H : Hp} {p : Addr} {o : HO} (hp : H p = none) : ∀ (d : D) (v : V), RD K X H d v → RD K (p :: X) (upd H p o) d v
  | .non, v, h => by rw [RD] at h ⊢; exact h
  | .bl b, v, h => by rw [RD] at h ⊢; exact h
  | .int i, v, h => by rw [RD] at h ⊢; exact h
  | .str x, v, h => by rw [RD] at h ⊢; exact h
  | .tup t ds, v, h => by
    rw [RD] at h ⊢
    obtain ⟨a, vs, e, h1, h2⟩ := h
    refine ⟨a, vs, e, ?_, RDs.fresh hp ds vs h2⟩
    cases t with
    | true =>
      have h1 : H a = some (.tup vs) := h1
      show upd H p o a = _
      rw [upd_ne (ne_of_none h1 hp)]; exact h1
    | false =>
      have h1 : SqT K H a vs := h1
      show SqT K _ a vs
      rcases h1 with (h | ⟨u, h⟩) | h
      · exact .inl (.inl (by rw [upd_ne (ne_of_none h hp)]; exact h))
      · exact .inl (.inr ⟨u, by rw [upd_ne (ne_of_none h hp)]; exact h⟩)
      · exact .inr h
  | .lst ds, v, h => by
    rw [RD] at h ⊢
    obtain ⟨a, vs, e, h1, h2, h3⟩ := h
    have ne := ne_of_none h1 hp
    exact ⟨a, vs, e, by rw [upd_ne ne]; exact h1, by simp only [List.mem_cons, not_or]; exact ⟨ne, h2⟩, RDs.fresh hp ds vs h3⟩
  | .fl ds, v, h => by
    rw [RD] at h ⊢
    obtain ⟨a, vs, e, h1, h2⟩ := h
    refine ⟨a, vs, e, ?_, RDs.fresh hp ds vs h2⟩
    rcases h1 with ⟨u, h⟩ | h
    · exact .inl ⟨u, by rw [upd_ne (ne_of_none h hp)]; exact h⟩
    · exact .inr h
  | .dK ks ds, v, h => by
    rw [RD] at h ⊢
    obtain ⟨a, vs, e, h1, h2, hl, h3⟩ := h
    have ne := ne_of_none h1 hp
    exact ⟨a, vs, e, by rw [upd_ne ne]; exact h1, by simp only [List.mem_cons, not_or]; exact ⟨ne, h2⟩, hl, RDs.fresh hp ds vs h3⟩
  | .dT ks ds, v, h => by
    rw [RD] at h ⊢
    obtain ⟨a, vs, e, h1, h2, hl, h3⟩ := h
    have ne := ne_of_none h1 hp
    exact ⟨a, vs, e, by rw [upd_ne ne]; exact h1, by simp only [List.mem_cons, not_or]; exact ⟨ne, h2⟩, hl, RDs.fresh hp ds vs h3⟩
theorem RDs.fresh {K : PySem.W.Frag} {X : List Addr} {H : Hp} {p : Addr} {o : HO} (hp : H p = none) : ∀ (ds : List D) (vs : List V), RDs K X H ds vs → RDs K (p :: X) (upd H p o) ds vs
  | [], vs, h => by rw [RDs] at h ⊢; exact h
  | d :: ds, vs, h => by
    rw [RDs] at h ⊢
    obtain ⟨x, xs, e, h1, h2⟩ := h
    exact ⟨x, xs, e, RD.fresh hp d x h1, RDs.fresh hp ds xs h2⟩
end
theorem RW.fresh {K : PySem.W.Frag} {ex m : List Addr} {H : Hp} {p : Addr} {o : HO} (hp : H p = none) : ∀ (w : W) (v : V), RW K ex m H w v → RW K (p :: ex) m (upd H p o) w v
  | .v d, v, h => RD.fresh hp d v h
  | .ref k, v, h => h
theorem CellOk.fresh {K : PySem.W.Frag} {ex m : List Addr} {H : Hp} {p : Addr} {o : HO} (hp : H p = none) {a : Addr} : ∀ {c : C}, CellOk K ex m H a c → CellOk K (p :: ex) m (upd H p o) a c
  | .lst ws, ⟨vs, e, r⟩ => ⟨vs, by rw [upd_ne (ne_of_none e hp)]; exact e, Paired.mapP r (RW.fresh hp)⟩
  | .dK kvs, ⟨xs, e, r⟩ => ⟨xs, by rw [upd_ne (ne_of_none e hp)]; exact e, Paired.mapP r fun a b z => ⟨z.1, RW.fresh hp _ _ z.2⟩⟩
  | .dT kvs, ⟨xs, e, r⟩ => ⟨xs, by rw [upd_ne (ne_of_none e hp)]; exact e, Paired.mapP r fun a b z => ⟨z.1, RW.fresh hp _ _ z.2⟩⟩
/-- a new object that what is known does not hold, barred from now on -/
theorem Rel.laidF {K : PySem.W.Frag} {ex m : List Addr} {S : Sto} {H : Hp} (r : Rel K ex m S H) {p : Addr} {o : HO} (hp : H p = none) (mu : Mut (some o)) :
    Rel K (p :: ex) m S (upd H p o) ∧ Stp m H m (upd H p o) ∧ ∀ w v, RW K ex m H w v → RW K (p :: ex) m (upd H p o) w v := by
  obtain ⟨r2, st⟩ := r.laid (o := o) hp
  refine ⟨⟨r.len, r.nd, ⟨r2.kd.cell, fun a h z => ?_, fun a h => ?_⟩, fun k c a h1 h2 => (r.cells k c a h1 h2).fresh hp⟩, st, RW.fresh hp⟩
  · rcases List.mem_cons.mp z with z | z
    · subst z
      have := r.kd.cell a h
      rw [hp] at this; exact this
    · exact r.kd.disj a h z
  · rcases List.mem_cons.mp h with z | z
    · subst z; rw [upd_same]; exact mu
    · exact r2.kd.fore a z

/-! ## displays -/
def xtup (t : Bool) (a : XA) : XE := fun ρ S => (a ρ S).bind fun p => if p.1.length ≤ LIM then (toDs p.1).map fun ds => (.v (.tup t ds), p.2) else none
theorem xe_tup (t : Bool) {es : List Expr} {k : Nat} {fa : XA} (h : PA X es (tMA X.K fa)) : PE X (.Tuple es k pos) (tM X.K (xtup t fa)) := by
  refine PE.imp (pe_tup h) fun σ H Q ⟨ex, ρ, m, S, w, S', Rl, E, hf, q⟩ => ?_
  obtain ⟨⟨ws, S1⟩, h1, h2⟩ := Option.bind_eq_some_iff.mp hf
  by_cases hl : ws.length ≤ LIM
  · rw [if_pos hl] at h2
    obtain ⟨ds, h3, h4⟩ := Option.map_eq_some_iff.mp h2
    cases h4
    have e := toDs_eq h3
    subst e
    refine ⟨ex, ρ, m, S, _, S1, Rl, E, h1, fun vs m' H' st R' rws => ⟨?_, fun p hp => ?_⟩⟩
    · rw [← rws.length]; exact Nat.le_trans hl lim_le
    · obtain ⟨R2, st2⟩ := R'.laid (o := .tup vs) hp
      refine q _ m' _ (st.trans st2) R2 ?_
      show RD X.K (ex ++ m') _ (.tup t ds) _
      rw [RD]
      refine ⟨p, vs, rfl, ?_, RDs.mono R'.kd st2 _ _ rws.ds⟩
      cases t with
      | true => exact upd_same
      | false => exact SqT.of upd_same
  · rw [if_neg hl] at h2; cases h2
def xlst (a : XA) : XA := fun ρ S => (a ρ S).bind fun p => if p.1.length ≤ LIM then some p else none
theorem xl_lst {es : List Expr} {fa : XA} (h : PA X es (tMA X.K fa)) : PE X (.List es pos) (tML X.K (xlst fa)) := by
  refine PE.imp (pe_lst h) fun σ H Q ⟨ex, ρ, m, S, w, S', Rl, E, hf, q⟩ => ?_
  obtain ⟨⟨ws, S1⟩, h1, h2⟩ := Option.bind_eq_some_iff.mp hf
  by_cases hl : ws.length ≤ LIM
  · have h2 : (if ws.length ≤ LIM then some (ws, S1) else none) = some (w, S') := h2
    rw [if_pos hl] at h2
    cases h2
    refine ⟨ex, ρ, m, S, w, S', Rl, E, h1, fun vs m' H' st R' rws => ⟨?_, fun p hp => ?_⟩⟩
    · rw [← rws.length]; exact Nat.le_trans hl lim_le
    · obtain ⟨R2, st2, mo⟩ := R'.laidF (o := .lst vs) hp trivial
      obtain ⟨f1, f2⟩ := st.fresh Rl.kd R' hp
      exact q p vs m' _ (st.trans st2) R2 f1 upd_same (Paired.mapP rws mo)
  · have h2 : (if ws.length ≤ LIM then some (ws, S1) else none) = some (w, S') := h2
    rw [if_neg hl] at h2; cases h2
/-- a new list by value; as a cell -/
def xval (a : XA) : XE := fun ρ S => (a ρ S).bind fun p => (toDs p.1).map fun ds => (.v (.lst ds), p.2)
def xcel (a : XA) : XE := fun ρ S => (a ρ S).map fun p => (.ref p.2.length, p.2 ++ [.lst p.1])
theorem RW.less {K : PySem.W.Frag} {ex ex' m : List Addr} {H : Hp} (h : ∀ a, a ∈ ex → a ∈ ex') : ∀ (w : W) (v : V), RW K ex' m H w v → RW K ex m H w v
  | .v d, v, r => RD.less (fun a z => by simp only [List.mem_append] at z ⊢; exact z.imp (h a) id) d v r
  | .ref k, v, r => r
theorem CellOk.map {K : PySem.W.Frag} {ex ex' m m' : List Addr} {H : Hp} {a : Addr} (h : ∀ w v, RW K ex m H w v → RW K ex' m' H w v) : ∀ {c : C}, CellOk K ex m H a c → CellOk K ex' m' H a c
  | .lst ws, ⟨vs, e, r⟩ => ⟨vs, e, Paired.mapP r h⟩
  | .dK kvs, ⟨xs, e, r⟩ => ⟨xs, e, Paired.mapP r fun a b z => ⟨z.1, h _ _ z.2⟩⟩
  | .dT kvs, ⟨xs, e, r⟩ => ⟨xs, e, Paired.mapP r fun a b z => ⟨z.1, h _ _ z.2⟩⟩
theorem Rel.less {K : PySem.W.Frag} {ex m : List Addr} {S : Sto} {H : Hp} {p : Addr} (r : Rel K (p :: ex) m S H) : Rel K ex m S H :=
  ⟨r.len, r.nd, ⟨r.kd.cell, fun a h z => r.kd.disj a h (List.mem_cons_of_mem _ z), fun a h => r.kd.fore a (List.mem_cons_of_mem _ h)⟩, fun k c a h1 h2 => (r.cells k c a h1 h2).map (RW.less fun _ z => List.mem_cons_of_mem _ z)⟩
theorem Rel.toCel {K : PySem.W.Frag} {ex m m0 : List Addr} {S : Sto} {H H0 : Hp} {p : Addr} {c : C} (r : Rel K (p :: ex) m S H) (nx : p ∉ ex) (st : Stp m0 H0 m H) (hp : H0 p = none) (ok : CellOk K (p :: ex) m H p c) :
    Rel K ex (m ++ [p]) (S ++ [c]) H ∧ Stp m0 H0 (m ++ [p]) H := by
  have nm : p ∉ m := fun h => r.kd.disj p h List.mem_cons_self
  have mv : ∀ w v, RW K (p :: ex) m H w v → RW K ex (m ++ [p]) H w v := fun w v h => by
    cases w with
    | v d => exact RD.less (fun a z => by simp only [List.mem_append, List.mem_cons] at z ⊢; rcases z with z | z | z | z; exact .inl (.inr z); exact .inr z; exact .inl (.inl z); cases z) d v h
    | ref i =>
      obtain ⟨a, e, h⟩ := h
      exact ⟨a, e, by rw [List.getElem?_append_left (List.getElem?_eq_some_iff.mp h).1]; exact h⟩
  have st' : Stp m0 H0 (m ++ [p]) H := ⟨by obtain ⟨e, rfl⟩ := st.pre; exact ⟨e ++ [p], by simp⟩, st.keep, fun a h n => by
    rcases List.mem_append.mp h with h | h
    · exact st.new a h n
    · have e : a = p := by simpa using h
      subst e; exact hp⟩
  refine ⟨⟨by simp [r.len], ?_, ⟨fun a h => ?_, fun a h => ?_, fun a h => r.kd.fore a (List.mem_cons_of_mem _ h)⟩, fun k d a h1 h2 => ?_⟩, st'⟩
  · rw [List.nodup_append]
    refine ⟨r.nd, by simp, fun a ha b hb e => ?_⟩
    have e' : b = p := by simpa using hb
    subst e; subst e'; exact nm ha
  · rcases List.mem_append.mp h with h | h
    · exact r.kd.cell a h
    · have e : a = p := by simpa using h
      subst e; exact r.kd.fore a List.mem_cons_self
  · rcases List.mem_append.mp h with h | h
    · exact fun z => r.kd.disj a h (List.mem_cons_of_mem _ z)
    · have e : a = p := by simpa using h
      subst e; exact nx
  · by_cases hk : k < S.length
    · rw [List.getElem?_append_left hk] at h1
      rw [List.getElem?_append_left (by rw [r.len]; exact hk)] at h2
      exact (r.cells k d a h1 h2).map mv
    · have e1 : k = S.length := by
        have := (List.getElem?_eq_some_iff.mp h1).1
        simp at this; omega
      subst e1
      rw [List.getElem?_append_right (Nat.le_refl _)] at h1
      rw [List.getElem?_append_right (by rw [r.len]; exact Nat.le_refl _)] at h2
      simp [r.len] at h1 h2
      subst h1; subst h2
      exact ok.map mv
theorem Kd.newF {ex m : List Addr} {H : Hp} (k : Kd ex m H) {p : Addr} (hp : H p = none) : p ∉ ex := fun h => by
  have := k.fore p h
  rw [hp] at this; exact this
theorem xe_val {fa : XA} (h : PE X e (tML X.K fa)) : PE X e (tM X.K (xval fa)) := by
  refine PE.imp h fun σ H Q ⟨ex, ρ, m, S, w, S', Rl, E, hf, q⟩ => ?_
  obtain ⟨⟨ws, S1⟩, h1, h2⟩ := Option.bind_eq_some_iff.mp hf
  obtain ⟨ds, h3, h4⟩ := Option.map_eq_some_iff.mp h2
  cases h4
  have e := toDs_eq h3
  subst e
  refine ⟨ex, ρ, m, S, _, S1, Rl, E, h1, fun p vs m' H' st R' f1 f3 rws => ?_⟩
  refine q _ m' H' st R'.less ?_
  show RD X.K (ex ++ m') _ (.lst ds) _
  rw [RD]
  exact ⟨p, vs, rfl, f3, fun z => (List.mem_append.mp z).elim (Rl.kd.newF f1) fun z => R'.kd.disj p z List.mem_cons_self, RWs.ds (ds := ds) (Paired.mapP rws (RW.less fun _ z => List.mem_cons_of_mem _ z))⟩
theorem xe_cel {fa : XA} (h : PE X e (tML X.K fa)) : PE X e (tM X.K (xcel fa)) := by
  refine PE.imp h fun σ H Q ⟨ex, ρ, m, S, w, S', Rl, E, hf, q⟩ => ?_
  obtain ⟨⟨ws, S1⟩, h1, h2⟩ := Option.map_eq_some_iff.mp hf
  cases h2
  refine ⟨ex, ρ, m, S, _, S1, Rl, E, h1, fun p vs m' H' st R' f1 f3 rws => ?_⟩
  obtain ⟨R2, st2⟩ := R'.toCel (c := .lst ws) (Rl.kd.newF f1) st f1 ⟨vs, f3, rws⟩
  refine q _ _ H' st2 R2 ⟨p, rfl, ?_⟩
  rw [← R'.len, List.getElem?_append_right (Nat.le_refl _)]
  simp
end
end Fy
namespace Fy
open PySem PySem.Spec PyProof.Rows L2

/-! ## what a value is made of -/
/-- a list, whatever holds it; a list that is tracked; a tuple -/
def trkW (S : Sto) : W → Option (List W)
  | .v (.lst ds) => some (ds.map .v)
  | .ref k => match S[k]? with
    | some (.lst ws) => some ws
    | _ => none
  | _ => none
def lstW (S : Sto) : W → Option (List W)
  | .v (.fl ds) => some (ds.map .v)
  | w => trkW S w
def tupW : W → Option (List W)
  | .v (.tup _ ds) => some (ds.map .v)
  | _ => none
/-- a list or a tuple -/
def seqW (S : Sto) : W → Option (List W)
  | .v (.tup _ ds) => some (ds.map .v)
  | w => lstW S w
section
variable {K : PySem.W.Frag} {ex m : List Addr} {S : Sto} {H : Hp} {w : W} {ws : List W} {x : V}
theorem trkW_ok (R : Rel K ex m S H) (r : RW K ex m H w x) (h : trkW S w = some ws) : ∃ a vs, x = .ref a ∧ H a = some (.lst vs) ∧ RWs K ex m H ws vs := by
  cases w with
  | v d =>
    cases d with
    | lst ds =>
      have h : some (ds.map W.v) = some ws := h
      cases h
      have r : RD K (ex ++ m) H (.lst ds) x := r
      rw [RD] at r
      obtain ⟨a, vs, e, h1, h2, h3⟩ := r
      exact ⟨a, vs, e, h1, h3.ws⟩
    | _ => cases h
  | ref k =>
    obtain ⟨a, e, hk⟩ := r
    have h : (match S[k]? with | some (.lst us) => some us | _ => none) = some ws := h
    cases q : S[k]? with
    | none => rw [q] at h; cases h
    | some c =>
      rw [q] at h
      cases c with
      | lst us =>
        cases h
        obtain ⟨vs, h1, h2⟩ := R.cells k _ a q hk
        exact ⟨a, vs, e, h1, h2⟩
      | _ => cases h
theorem lstW_ok (R : Rel K ex m S H) (r : RW K ex m H w x) (h : lstW S w = some ws) : ∃ a vs, x = .ref a ∧ SqL K H a vs ∧ RWs K ex m H ws vs := by
  have tr : trkW S w = some ws → ∃ a vs, x = .ref a ∧ SqL K H a vs ∧ RWs K ex m H ws vs := fun h => by
    obtain ⟨a, vs, e, h1, h2⟩ := trkW_ok R r h
    exact ⟨a, vs, e, SqL.of h1, h2⟩
  cases w with
  | v d =>
    cases d with
    | fl ds =>
      have h : some (ds.map W.v) = some ws := h
      cases h
      have r : RD K (ex ++ m) H (.fl ds) x := r
      rw [RD] at r
      obtain ⟨a, vs, e, h1, h3⟩ := r
      refine ⟨a, vs, e, ?_, h3.ws⟩
      rcases h1 with ⟨o, h1⟩ | h1
      · exact .inl (.inr ⟨o, h1⟩)
      · exact .inr h1
    | _ => exact tr h
  | ref k => exact tr h
theorem tupAt_sq {t : Bool} {a : Addr} {vs : List V} (h : TupAt K H t a vs) : SqT K H a vs := by
  cases t with
  | true => exact SqT.of h
  | false => exact h
theorem tupW_ok (r : RW K ex m H w x) (h : tupW w = some ws) : ∃ a vs, x = .ref a ∧ SqT K H a vs ∧ RWs K ex m H ws vs := by
  cases w with
  | ref k => cases h
  | v d =>
    cases d with
    | tup t ds =>
      have h : some (ds.map W.v) = some ws := h
      cases h
      have r : RD K (ex ++ m) H (.tup t ds) x := r
      rw [RD] at r
      obtain ⟨a, vs, e, h1, h3⟩ := r
      exact ⟨a, vs, e, tupAt_sq h1, h3.ws⟩
    | _ => cases h
theorem seqW_ok (R : Rel K ex m S H) (r : RW K ex m H w x) (h : seqW S w = some ws) : ∃ a vs, x = .ref a ∧ (SqL K H a vs ∨ SqT K H a vs) ∧ RWs K ex m H ws vs := by
  have tr : lstW S w = some ws → ∃ a vs, x = .ref a ∧ (SqL K H a vs ∨ SqT K H a vs) ∧ RWs K ex m H ws vs := fun h => by
    obtain ⟨a, vs, e, h1, h2⟩ := lstW_ok R r h
    exact ⟨a, vs, e, .inl h1, h2⟩
  cases w with
  | ref k => exact tr h
  | v d =>
    cases d with
    | tup t ds =>
      obtain ⟨a, vs, e, h1, h2⟩ := tupW_ok (w := .v (.tup t ds)) r h
      exact ⟨a, vs, e, .inr h1, h2⟩
    | _ => exact tr h
theorem rw_int {i : Int} (r : RW K ex m H (.v (.int i)) x) : x = .int i := by
  have r : RD K (ex ++ m) H (.int i) x := r
  rw [RD] at r; exact r
theorem rw_str {i : Str} (r : RW K ex m H (.v (.str i)) x) : x = .str i := by
  have r : RD K (ex ++ m) H (.str i) x := r
  rw [RD] at r; exact r
theorem rw_bl {i : Bool} (r : RW K ex m H (.v (.bl i)) x) : x = .bl i := by
  have r : RD K (ex ++ m) H (.bl i) x := r
  rw [RD] at r; exact r
theorem rw_non (r : RW K ex m H (.v .non) x) : x = .non := by
  have r : RD K (ex ++ m) H .non x := r
  rw [RD] at r; exact r
theorem int_rw {i : Int} : RW K ex m H (.v (.int i)) (.int i) := by
  show RD K (ex ++ m) H (.int i) _
  rw [RD]
theorem str_rw {i : Str} : RW K ex m H (.v (.str i)) (.str i) := by
  show RD K (ex ++ m) H (.str i) _
  rw [RD]
theorem bl_rw {i : Bool} : RW K ex m H (.v (.bl i)) (.bl i) := by
  show RD K (ex ++ m) H (.bl i) _
  rw [RD]
theorem non_rw : RW K ex m H (.v .non) .non := by
  show RD K (ex ++ m) H .non _
  rw [RD]
/-- a new list by value, a new tuple -/
theorem new_lst (R : Rel K ex m S H) {p : Addr} {ds : List D} {vs : List V} (hp : H p = none) (r : RDs K (ex ++ m) H ds vs) : Stp m H m (upd H p (.lst vs)) ∧ Rel K ex m S (upd H p (.lst vs)) ∧ RW K ex m (upd H p (.lst vs)) (.v (.lst ds)) (.ref p) := by
  obtain ⟨R2, st⟩ := R.laid (o := .lst vs) hp
  refine ⟨st, R2, ?_⟩
  show RD K (ex ++ m) _ (.lst ds) _
  rw [RD]
  exact ⟨p, vs, rfl, upd_same, (Stp.refl.fresh R.kd R hp).2, RDs.mono R.kd st _ _ r⟩
theorem new_tup (R : Rel K ex m S H) {p : Addr} {ds : List D} {vs : List V} {t : Bool} (hp : H p = none) (r : RDs K (ex ++ m) H ds vs) : Stp m H m (upd H p (.tup vs)) ∧ Rel K ex m S (upd H p (.tup vs)) ∧ RW K ex m (upd H p (.tup vs)) (.v (.tup t ds)) (.ref p) := by
  obtain ⟨R2, st⟩ := R.laid (o := .tup vs) hp
  refine ⟨st, R2, ?_⟩
  show RD K (ex ++ m) _ (.tup t ds) _
  rw [RD]
  refine ⟨p, vs, rfl, ?_, RDs.mono R.kd st _ _ r⟩
  cases t with
  | true => exact upd_same
  | false => exact SqT.of upd_same
theorem RDs.append {X : List Addr} : ∀ {ds es : List D} {vs us : List V}, RDs K X H ds vs → RDs K X H es us → RDs K X H (ds ++ es) (vs ++ us)
  | [], es, vs, us, h, h2 => by rw [RDs] at h; subst h; exact h2
  | d :: ds, es, vs, us, h, h2 => by
    rw [RDs] at h
    obtain ⟨x, xs, rfl, h1, h⟩ := h
    rw [List.cons_append, List.cons_append, RDs]
    exact ⟨x, xs ++ us, rfl, h1, RDs.append h h2⟩
theorem RWs.append {ws us : List W} {vs xs : List V} (h : RWs K ex m H ws vs) (h2 : RWs K ex m H us xs) : RWs K ex m H (ws ++ us) (vs ++ xs) := by
  induction h with
  | nil => exact h2
  | cons r t ih => exact .cons r ih
theorem RWs.drop {ws : List W} {vs : List V} (h : RWs K ex m H ws vs) : ∀ n, RWs K ex m H (ws.drop n) (vs.drop n) := by
  induction h with
  | nil => intro n; simp; exact .nil
  | cons r t ih =>
    intro n
    cases n with
    | zero => exact .cons r t
    | succ n => exact ih n
theorem RWs.take {ws : List W} {vs : List V} (h : RWs K ex m H ws vs) : ∀ n, RWs K ex m H (ws.take n) (vs.take n) := by
  induction h with
  | nil => intro n; simp; exact .nil
  | cons r t ih =>
    intro n
    cases n with
    | zero => exact .nil
    | succ n => exact .cons r (ih n)
theorem RWs.set {ws : List W} {vs : List V} (h : RWs K ex m H ws vs) {w : W} {v : V} (r : RW K ex m H w v) : ∀ n, RWs K ex m H (ws.set n w) (vs.set n v) := by
  induction h with
  | nil => intro n; exact .nil
  | cons q t ih =>
    intro n
    cases n with
    | zero => exact .cons r t
    | succ n => exact .cons q (ih n)
theorem RWs.erase {ws : List W} {vs : List V} (h : RWs K ex m H ws vs) : ∀ n, RWs K ex m H (ws.eraseIdx n) (vs.eraseIdx n) := by
  induction h with
  | nil => intro n; exact .nil
  | cons q t ih =>
    intro n
    cases n with
    | zero => exact t
    | succ n => exact .cons q (ih n)
theorem RWs.dropLast {ws : List W} {vs : List V} (h : RWs K ex m H ws vs) : RWs K ex m H ws.dropLast vs.dropLast := by
  rw [List.dropLast_eq_take, List.dropLast_eq_take, h.length]
  exact h.take _
theorem RWs.reverse {ws : List W} {vs : List V} (h : RWs K ex m H ws vs) : RWs K ex m H ws.reverse vs.reverse := by
  induction h with
  | nil => exact .nil
  | cons q t ih =>
    rw [List.reverse_cons, List.reverse_cons]
    exact ih.append (.cons q .nil)
theorem RWs.rep {ws : List W} {vs : List V} (h : RWs K ex m H ws vs) : ∀ k : Nat, RWs K ex m H (List.replicate k ws).flatten (List.replicate k vs).flatten
  | 0 => .nil
  | k + 1 => by
    rw [List.replicate_succ, List.replicate_succ, List.flatten_cons, List.flatten_cons]
    exact h.append (RWs.rep h k)
theorem atI_rel {ws : List W} {vs : List V} (h : RWs K ex m H ws vs) {i : Int} {w : W} (e : atI ws i = some w) : ∃ v, atI vs i = some v ∧ RW K ex m H w v := by
  unfold atI at e ⊢
  rw [← h.length]
  obtain ⟨j, h1, h2⟩ := Option.bind_eq_some_iff.mp e
  obtain ⟨v, h3, r⟩ := h.get h2
  exact ⟨v, by rw [h1]; exact h3, r⟩
theorem RWs.toDs {ws : List W} {vs : List V} {ds : List D} (h : RWs K ex m H ws vs) (e : toDs ws = some ds) : RDs K (ex ++ m) H ds vs := by
  have := toDs_eq e
  subst this
  exact h.ds
end

/-! ## arithmetic -/
def addF (S : Sto) : W → W → Option W
  | .v (.int i), .v (.int j) => some (.v (.int (i + j)))
  | .v (.str a), .v (.str b) => if a.length + b.length ≤ LIM then some (.v (.str (a ++ b))) else none
  | .v (.tup _ ds), .v (.tup _ es) => if ds.length + es.length ≤ LIM then some (.v (.tup false (ds ++ es))) else none
  | x, y => (trkW S x).bind fun a => (trkW S y).bind fun b => if a.length + b.length ≤ LIM then (toDs (a ++ b)).map fun ds => .v (.lst ds) else none
/-- two lists put together, new, with whatever they hold -/
def catF (S : Sto) (x y : W) : Option (List W) := (trkW S x).bind fun a => (trkW S y).bind fun b => if a.length + b.length ≤ LIM then some (a ++ b) else none
def int2 (g : Int → Int → Option D) : Sto → W → W → Option W := fun _ x y => match x, y with
  | .v (.int i), .v (.int j) => (g i j).map .v
  | _, _ => none
def subF : Sto → W → W → Option W := int2 fun i j => some (.int (i - j))
def mulOk (i j : Int) : Bool := decide (i.natAbs.log2 + j.natAbs.log2 < 1000000)
def divOk (j : Int) : Bool := decide (0 < j) && decide (j.natAbs.log2 < 9000)
def fdivF : Sto → W → W → Option W := int2 fun i j => if divOk j = true then some (.int (i / j)) else none
def modF : Sto → W → W → Option W := int2 fun i j => if 0 < j then some (.int (i % j)) else none
def powF : Sto → W → W → Option W := int2 fun i j => if 0 ≤ j ∧ j ≤ 1000000 ∧ i.natAbs < 2 ^ 64 then some (.int (i ^ j.toNat)) else none
def mulF (S : Sto) : W → W → Option W
  | .v (.int i), .v (.int j) => if mulOk i j = true then some (.v (.int (i * j))) else none
  | .v (.tup t ds), .v (.int k) => if ds ≠ [] ∧ 2 ≤ k ∧ k ≤ 1000 ∧ ds.length ≤ 1000 then some (.v (.tup t (List.replicate k.toNat ds).flatten)) else none
  | x, .v (.int k) => (trkW S x).bind fun a => if -1000000 ≤ k ∧ k ≤ 1000000 ∧ a.length * k.toNat ≤ LIM then (toDs (List.replicate k.toNat a).flatten).map fun ds => .v (.lst ds) else none
  | _, _ => none
def negF : Sto → W → Option W := fun _ x => match x with
  | .v (.int i) => some (.v (.int (-i)))
  | _ => none
section
variable {X : Cx}
theorem op_int2 {f : Value → Value → Sem Value} {g : Int → Int → Option D} {C : Int → Int → Prop} {h : Int → Int → V} (hr : OpR X f (rI C h)) (hg : ∀ i j d, g i j = some d → C i j ∧ ∀ Y H, RD X.K Y H d (h i j)) : OpR X f (rM X.K (int2 g)) := by
  intro pins s σ H x y v u Q I rx ry ⟨ex, m, S, wx, wy, w, R, r1, r2, hf, q⟩
  cases wx with
  | ref k => cases hf
  | v d =>
    cases d with
    | int i =>
      cases wy with
      | ref k => cases hf
      | v d =>
        cases d with
        | int j =>
          obtain ⟨d, h1, h2⟩ := Option.map_eq_some_iff.mp (show (g i j).map W.v = some w from hf)
          subst h2
          obtain ⟨c, rd⟩ := hg i j d h1
          exact hr pins s σ H x y v u Q I rx ry ⟨i, j, rw_int r1, rw_int r2, c, q _ H Stp.refl R (rd _ _)⟩
        | _ => cases hf
    | _ => cases hf
theorem opI0_of {f : Value → Value → Sem Value} {h : Int → Int → V} (hr : OpR X f (rI0 h)) : OpR X f (rI (fun _ _ => True) h) := by
  intro pins s σ H x y v u Q I rx ry ⟨i, j, e1, e2, _, q⟩
  exact hr pins s σ H x y v u Q I rx ry ⟨i, j, e1, e2, q⟩
theorem fo_sub : OpR X (binaryOp .Sub) (rM X.K subF) := op_int2 (opI0_of op_sub) fun i j d h => by
  cases h
  exact ⟨trivial, fun _ _ => by rw [RD]⟩
theorem fo_fdiv : OpR X (binaryOp .FloorDiv) (rM X.K fdivF) := op_int2 op_fdivW fun i j d h => by
  by_cases c : divOk j = true
  · rw [if_pos c] at h
    cases h
    unfold divOk at c
    rw [Bool.and_eq_true] at c
    exact ⟨⟨of_decide_eq_true c.1, of_decide_eq_true c.2⟩, fun _ _ => by rw [RD]⟩
  · rw [if_neg c] at h; cases h
theorem fo_mod : OpR X (binaryOp .Mod) (rM X.K modF) := op_int2 op_mod fun i j d h => by
  by_cases c : 0 < j
  · rw [if_pos c] at h
    cases h
    exact ⟨c, fun _ _ => by rw [RD]⟩
  · rw [if_neg c] at h; cases h
theorem fo_pow : OpR X (binaryOp .Pow) (rM X.K powF) := op_int2 op_pow fun i j d h => by
  by_cases c : 0 ≤ j ∧ j ≤ 1000000 ∧ i.natAbs < 2 ^ 64
  · rw [if_pos c] at h
    cases h
    exact ⟨c, fun _ _ => by rw [RD]⟩
  · rw [if_neg c] at h; cases h
theorem fo_neg : UnR X (unaryOp .USub) (rU X.K negF) := by
  intro pins s σ H x v Q I rx ⟨ex, m, S, wx, w, R, r1, hf, q⟩
  cases wx with
  | ref k => cases hf
  | v d =>
    cases d with
    | int i =>
      have hf : some (W.v (.int (-i))) = some w := hf
      cases hf
      exact un_neg pins s σ H x v Q I rx ⟨i, rw_int r1, q _ H Stp.refl R int_rw⟩
    | _ => cases hf
theorem cat_lists (pins : List (Addr × Obj)) (s : Shared) (σ : L2.St) (H : Hp) (x y : V) (v u : Value) (Q : VK) (I : Inv X pins σ H s) (rx : RelV x v) (ry : RelV y u) {ex m : List Addr} {S : Sto} {wx wy w : W} (R : Rel X.K ex m S H) (r1 : RW X.K ex m H wx x) (r2 : RW X.K ex m H wy y)
    (hf : ((trkW S wx).bind fun a => (trkW S wy).bind fun b => if a.length + b.length ≤ LIM then (toDs (a ++ b)).map fun ds => W.v (.lst ds) else none) = some w)
    (q : ∀ v H', Stp m H m H' → Rel X.K ex m S H' → RW X.K ex m H' w v → Q v H') : wpAny (model X.prog X.w) X.A (binaryOp .Add v u) (EP X pins σ Q) X.xe s := by
  obtain ⟨a, h1, h2⟩ := Option.bind_eq_some_iff.mp hf
  obtain ⟨b, h3, h4⟩ := Option.bind_eq_some_iff.mp h2
  by_cases c : a.length + b.length ≤ LIM
  · rw [if_pos c] at h4
    obtain ⟨ds, h5, h6⟩ := Option.map_eq_some_iff.mp h4
    subst h6
    obtain ⟨p1, vs, e1, H1, q1⟩ := trkW_ok R r1 h1
    obtain ⟨p2, us, e2, H2, q2⟩ := trkW_ok R r2 h3
    refine op_cat pins s σ H x y v u Q I rx ry ⟨p1, p2, vs, us, e1, e2, H1, H2, ?_, fun p hp => ?_⟩
    · rw [← q1.length, ← q2.length]; exact Nat.le_trans c lim_le
    · obtain ⟨st, R2, r⟩ := new_lst R hp ((q1.append q2).toDs h5)
      exact q _ _ st R2 r
  · rw [if_neg c] at h4; cases h4
theorem fo_add : OpR X (binaryOp .Add) (rM X.K addF) := by
  intro pins s σ H x y v u Q I rx ry ⟨ex, m, S, wx, wy, w, R, r1, r2, hf, q⟩
  unfold addF at hf
  split at hf
  · rename_i i j
    cases hf
    exact op_add pins s σ H x y v u Q I rx ry ⟨i, j, rw_int r1, rw_int r2, q _ H Stp.refl R int_rw⟩
  · rename_i a b
    by_cases c : a.length + b.length ≤ LIM
    · rw [if_pos c] at hf
      cases hf
      exact op_add_str pins s σ H x y v u Q I rx ry ⟨a, b, rw_str r1, rw_str r2, Nat.le_trans c lim_le, q _ H Stp.refl R str_rw⟩
    · rw [if_neg c] at hf; cases hf
  · rename_i t ds t' es
    by_cases c : ds.length + es.length ≤ LIM
    · rw [if_pos c] at hf
      cases hf
      have r1' : RD X.K (ex ++ m) H (.tup t ds) x := r1
      have r2' : RD X.K (ex ++ m) H (.tup t' es) y := r2
      rw [RD] at r1' r2'
      obtain ⟨a, vs, ea, ha, da⟩ := r1'
      obtain ⟨b, us, eb, hb, db⟩ := r2'
      have la := da.length
      have lb := db.length
      refine op_catA pins s σ H x y v u Q I rx ry ⟨a, b, vs, us, ea, eb, tupAt_sq ha, tupAt_sq hb, by rw [← la, ← lb]; exact Nat.le_trans c lim_le, fun h0 => ?_, fun h0 h1 => ?_, fun h0 h1 p hp => ?_⟩
      · have : ds = [] := List.eq_nil_of_length_eq_zero (by rw [la, h0]; rfl)
        subst this
        refine q _ H Stp.refl R ?_
        show RD X.K (ex ++ m) H (.tup false es) _
        rw [RD]
        exact ⟨b, us, rfl, tupAt_sq hb, db⟩
      · have : es = [] := List.eq_nil_of_length_eq_zero (by rw [lb, h1]; rfl)
        subst this
        refine q _ H Stp.refl R ?_
        show RD X.K (ex ++ m) H (.tup false (ds ++ [])) _
        rw [RD, List.append_nil]
        exact ⟨a, vs, rfl, tupAt_sq ha, da⟩
      · obtain ⟨st, R2, r⟩ := new_tup (t := false) R hp (da.append db)
        exact q _ _ st R2 r
    · rw [if_neg c] at hf; cases hf
  · exact cat_lists pins s σ H x y v u Q I rx ry R r1 r2 hf q
theorem fo_mul : OpR X (binaryOp .Mult) (rM X.K mulF) := by
  intro pins s σ H x y v u Q I rx ry ⟨ex, m, S, wx, wy, w, R, r1, r2, hf, q⟩
  unfold mulF at hf
  split at hf
  · rename_i i j
    by_cases c : mulOk i j = true
    · rw [if_pos c] at hf
      cases hf
      exact op_mulW pins s σ H x y v u Q I rx ry ⟨i, j, rw_int r1, rw_int r2, (show i.natAbs.log2 + j.natAbs.log2 < 1000000 from of_decide_eq_true c), q _ H Stp.refl R int_rw⟩
    · rw [if_neg c] at hf; cases hf
  · rename_i t ds k
    by_cases c : ds ≠ [] ∧ 2 ≤ k ∧ k ≤ 1000 ∧ ds.length ≤ 1000
    · rw [if_pos c] at hf
      cases hf
      have r1' : RD X.K (ex ++ m) H (.tup t ds) x := r1
      rw [RD] at r1'
      obtain ⟨a, vs, ea, ha, da⟩ := r1'
      have la := da.length
      refine op_repT pins s σ H x y v u Q I rx ry ⟨a, k, vs, ea, rw_int r2, tupAt_sq ha, fun h => c.1 (List.eq_nil_of_length_eq_zero (by rw [la, h]; rfl)), c.2.1, c.2.2.1, by rw [← la]; exact c.2.2.2, fun p hp => ?_⟩
      have da' : RDs X.K (ex ++ m) H (List.replicate k.toNat ds).flatten (List.replicate k.toNat vs).flatten := by
        have := (RDs.ws da).rep k.toNat
        rw [← List.map_replicate, ← List.map_flatten] at this
        exact this.ds
      obtain ⟨st, R2, r⟩ := new_tup (t := t) R hp da'
      exact q _ _ st R2 r
    · rw [if_neg c] at hf; cases hf
  · rename_i k _ _
    obtain ⟨a, h1, h2⟩ := Option.bind_eq_some_iff.mp hf
    by_cases c : -1000000 ≤ k ∧ k ≤ 1000000 ∧ a.length * k.toNat ≤ LIM
    · rw [if_pos c] at h2
      obtain ⟨ds, h5, h6⟩ := Option.map_eq_some_iff.mp h2
      subst h6
      obtain ⟨p1, vs, e1, H1, q1⟩ := trkW_ok R r1 h1
      refine op_rep pins s σ H x y v u Q I rx ry ⟨p1, k, vs, e1, rw_int r2, H1, by omega, by omega, by rw [← q1.length]; exact Nat.le_trans c.2.2 lim_le, fun p hp => ?_⟩
      obtain ⟨st, R2, r⟩ := new_lst R hp ((q1.rep _).toDs h5)
      exact q _ _ st R2 r
    · rw [if_neg c] at h2; cases h2
  · cases hf
end
end Fy
namespace Fy
open PySem PySem.Spec PyProof.Rows L2

/-! ## == -/
mutual
def pyD : D → PyData
  | .non => .none
  | .bl b => .bool b
  | .int i => .int i
  | .str x => .str x
  | .tup _ ds => .tuple (pyDs ds)
  | .lst ds => .list (pyDs ds)
  | .fl ds => .list (pyDs ds)
  | .dK _ _ => .dict []
  | .dT _ _ => .dict []
def pyDs : List D → List PyData
  | [] => []
  | d :: ds => pyD d :: pyDs ds
end
def okD (d : D) : Bool := SeqAt.shaped (pyD d)
def eqD (d e : D) : Bool := PyData.eqv (pyD d) (pyD e)
theorem pyDs_map : ∀ ds : List D, pyDs ds = ds.map pyD
  | [] => rfl
  | d :: ds => by rw [pyDs, pyDs_map ds]; rfl
/-- read through -/
def dW (S : Sto) : W → Option D
  | .v d => some d
  | w => (trkW S w).bind fun ws => (toDs ws).map .lst
section
variable {K : PySem.W.Frag} {H : Hp} {X : List Addr}
mutual
theorem RD.dp : ∀ (d : D) (v : V), RD K X H d v → (pyD d).canLay0 = true → Dp K H v (pyD d)
  | .non, v, h, _ => by rw [RD] at h; subst h; rw [pyD]; exact .non
  | .bl b, v, h, _ => by rw [RD] at h; subst h; rw [pyD]; exact .bl b
  | .int i, v, h, _ => by rw [RD] at h; subst h; rw [pyD]; exact .int i
  | .str x, v, h, _ => by rw [RD] at h; subst h; rw [pyD]; exact .str x
  | .tup t ds, v, h, c => by
    rw [RD] at h
    rw [pyD] at c ⊢
    obtain ⟨a, vs, rfl, h1, h2⟩ := h
    rw [PyData.canLay0] at c
    exact .tup (tupAt_sq h1) (RDs.dp ds vs h2 c)
  | .lst ds, v, h, c => by
    rw [RD] at h
    rw [pyD] at c ⊢
    obtain ⟨a, vs, rfl, h1, _, h2⟩ := h
    rw [PyData.canLay0] at c
    exact .lst (SqL.of h1) (RDs.dp ds vs h2 c)
  | .fl ds, v, h, c => by
    rw [RD] at h
    rw [pyD] at c ⊢
    obtain ⟨a, vs, rfl, h1, h2⟩ := h
    rw [PyData.canLay0] at c
    refine .lst ?_ (RDs.dp ds vs h2 c)
    rcases h1 with ⟨o, h1⟩ | h1
    · exact .inl (.inr ⟨o, h1⟩)
    · exact .inr h1
  | .dK _ _, v, h, c => by rw [pyD, PyData.canLay0] at c; cases c
  | .dT _ _, v, h, c => by rw [pyD, PyData.canLay0] at c; cases c
theorem RDs.dp : ∀ (ds : List D) (vs : List V), RDs K X H ds vs → PyData.canLayAll0 (pyDs ds) = true → DpAll K H vs (pyDs ds)
  | [], vs, h, _ => by rw [RDs] at h; subst h; rw [pyDs]; exact .nil
  | d :: ds, vs, h, c => by
    rw [RDs] at h
    obtain ⟨x, xs, rfl, h1, h2⟩ := h
    rw [pyDs, PyData.canLayAll0, Bool.and_eq_true] at c
    rw [pyDs]
    exact .cons (RD.dp d x h1 c.1) (RDs.dp ds xs h2 c.2)
end
end
theorem dW_dp {K : PySem.W.Frag} {ex m : List Addr} {S : Sto} {H : Hp} {w : W} {x : V} {d : D} (R : Rel K ex m S H) (r : RW K ex m H w x) (h : dW S w = some d) (c : (pyD d).canLay0 = true) : Dp K H x (pyD d) := by
  cases w with
  | v e =>
    have h : some e = some d := h
    cases h
    exact RD.dp d x r c
  | ref k =>
    obtain ⟨ws, h1, h2⟩ := Option.bind_eq_some_iff.mp (show ((trkW S (.ref k)).bind fun ws => (toDs ws).map D.lst) = some d from h)
    obtain ⟨ds, h3, h4⟩ := Option.map_eq_some_iff.mp h2
    subst h4
    obtain ⟨a, vs, rfl, h5, h6⟩ := trkW_ok R r h1
    rw [pyD] at c ⊢
    rw [PyData.canLay0] at c
    exact .lst (SqL.of h5) (RDs.dp ds vs (h6.toDs h3) c)
/-- a reading of both sides as data, with a bool -/
def cmpD (g : D → D → Bool) : Sto → W → W → Option W := fun S x y => (dW S x).bind fun d => (dW S y).bind fun e => if okD d = true ∧ okD e = true then some (.v (.bl (g d e))) else none
def eqF : Sto → W → W → Option W := cmpD eqD
def neF : Sto → W → W → Option W := cmpD fun d e => !eqD d e
section
variable {X : Cx}
theorem fo_cmpD {f : Value → Value → Sem Value} {g : D → D → Bool} {gp : PyData → PyData → Bool} (hg : ∀ d e, g d e = gp (pyD d) (pyD e))
    (hr : OpR X f (fun x y H Q => ∃ d e, Dp X.K H x d ∧ Dp X.K H y e ∧ SeqAt.shaped d = true ∧ SeqAt.shaped e = true ∧ Q (.bl (gp d e)) H)) : OpR X f (rM X.K (cmpD g)) := by
  intro pins s σ H x y v u Q I rx ry ⟨ex, m, S, wx, wy, w, R, r1, r2, hf, q⟩
  obtain ⟨d, h1, h2⟩ := Option.bind_eq_some_iff.mp hf
  obtain ⟨e, h3, h4⟩ := Option.bind_eq_some_iff.mp h2
  by_cases c : okD d = true ∧ okD e = true
  · rw [if_pos c] at h4
    cases h4
    refine hr pins s σ H x y v u Q I rx ry ⟨pyD d, pyD e, dW_dp R r1 h1 (SeqAt.canLay_of_shaped c.1), dW_dp R r2 h3 (SeqAt.canLay_of_shaped c.2), c.1, c.2, ?_⟩
    rw [← hg]
    exact q _ H Stp.refl R bl_rw
  · rw [if_neg c] at h4; cases h4
theorem fo_eq (hu : X.A.units + 64 < cLine) : OpR X (compareOp .Eq) (rM X.K eqF) := fo_cmpD (gp := PyData.eqv) (fun _ _ => rfl) (op_eqD hu)
theorem fo_ne (hu : X.A.units + 64 < cLine) : OpR X (compareOp .NotEq) (rM X.K neF) := fo_cmpD (gp := fun a b => !PyData.eqv a b) (fun _ _ => rfl) (op_neD hu)
end

/-! ## <, <=, is None -/
def cmpI (g : Int → Int → Bool) : Sto → W → W → Option W := int2 fun i j => some (.bl (g i j))
def intsD : List D → Option (List Int)
  | [] => some []
  | .int i :: r => (intsD r).map (i :: ·)
  | _ :: _ => none
def ltF : Sto → W → W → Option W := fun S x y => match x, y with
  | .v (.tup _ ds), .v (.tup _ es) => (intsD ds).bind fun ns => (intsD es).map fun ms => .v (.bl (HT.lexLt ns ms))
  | x, y => cmpI (fun i j => decide (i < j)) S x y
def leF := cmpI fun i j => decide (i ≤ j)
def gtF := cmpI fun i j => decide (j < i)
def geF := cmpI fun i j => decide (j ≤ i)
theorem intsD_eq : ∀ {ds : List D} {ns : List Int}, intsD ds = some ns → ds = ns.map D.int
  | [], _, h => by cases h; rfl
  | .int i :: r, ns, h => by
    obtain ⟨ms, h1, h2⟩ := Option.map_eq_some_iff.mp (show (intsD r).map (i :: ·) = some ns from h)
    subst h2
    rw [intsD_eq h1]; rfl
theorem intsD_map : ∀ ns : List Int, intsD (ns.map D.int) = some ns
  | [] => rfl
  | i :: ns => by show (intsD (ns.map D.int)).map (i :: ·) = _; rw [intsD_map ns]; rfl
theorem RDs.ints {K : PySem.W.Frag} {X : List Addr} {H : Hp} : ∀ {ns : List Int} {vs : List V}, RDs K X H (ns.map D.int) vs → vs = ns.map V.int
  | [], _, h => by rw [List.map_nil, RDs] at h; exact h
  | n :: ns, _, h => by
    rw [List.map_cons, RDs] at h
    obtain ⟨x, xs, rfl, h1, h2⟩ := h
    rw [RD] at h1
    rw [h1, RDs.ints h2]; rfl
theorem ints_RDs {K : PySem.W.Frag} {X : List Addr} {H : Hp} : ∀ (ns : List Int), RDs K X H (ns.map D.int) (ns.map V.int)
  | [] => by rw [List.map_nil, RDs]; rfl
  | n :: ns => by
    rw [List.map_cons, RDs]
    exact ⟨_, _, rfl, by rw [RD], ints_RDs ns⟩
def isNon : W → Bool
  | .v .non => true
  | _ => false
def isNF : Sto → W → W → Option W := fun _ x y => match y with
  | .v .non => some (.v (.bl (isNon x)))
  | _ => none
def notNF : Sto → W → W → Option W := fun _ x y => match y with
  | .v .non => some (.v (.bl (!isNon x)))
  | _ => none
section
variable {X : Cx}
theorem fo_cmpI {f : Value → Value → Sem Value} {g : Int → Int → Bool} (hr : OpR X f (rI0 fun i j => .bl (g i j))) : OpR X f (rM X.K (cmpI g)) := op_int2 (opI0_of hr) fun i j d h => by
  cases h
  exact ⟨trivial, fun _ _ => by rw [RD]⟩
theorem fo_le : OpR X (compareOp .LtE) (rM X.K leF) := fo_cmpI op_le
theorem fo_gt : OpR X (compareOp .Gt) (rM X.K gtF) := fo_cmpI op_gt
theorem fo_ge : OpR X (compareOp .GtE) (rM X.K geF) := fo_cmpI op_ge
theorem fo_lt (hu : X.A.units < cLine) : OpR X (compareOp .Lt) (rM X.K ltF) := by
  intro pins s σ H x y v u Q I rx ry ⟨ex, m, S, wx, wy, w, R, r1, r2, hf, q⟩
  unfold ltF at hf
  split at hf
  · rename_i t ds t' es
    obtain ⟨ns, h1, h2⟩ := Option.bind_eq_some_iff.mp hf
    obtain ⟨ms, h3, h4⟩ := Option.map_eq_some_iff.mp h2
    subst h4
    have := intsD_eq h1
    subst this
    have := intsD_eq h3
    subst this
    have r1' : RD X.K (ex ++ m) H (.tup t (ns.map D.int)) x := r1
    have r2' : RD X.K (ex ++ m) H (.tup t' (ms.map D.int)) y := r2
    rw [RD] at r1' r2'
    obtain ⟨a, vs, ea, ha, da⟩ := r1'
    obtain ⟨b, us, eb, hb, db⟩ := r2'
    rw [da.ints] at ha
    rw [db.ints] at hb
    exact op_ltT hu pins s σ H x y v u Q I rx ry ⟨a, b, ns, ms, ea, eb, tupAt_sq ha, tupAt_sq hb, q _ H Stp.refl R bl_rw⟩
  · exact fo_cmpI op_lt pins s σ H x y v u Q I rx ry ⟨ex, m, S, wx, wy, w, R, r1, r2, hf, q⟩
theorem non_iff {K : PySem.W.Frag} {ex m : List Addr} {H : Hp} {w : W} {x : V} (r : RW K ex m H w x) : decide (x = .non) = isNon w := by
  cases w with
  | ref k => obtain ⟨a, rfl, _⟩ := r; rfl
  | v d =>
    have r : RD K (ex ++ m) H d x := r
    cases d with
    | non => rw [RD] at r; subst r; rfl
    | bl b => rw [RD] at r; subst r; rfl
    | int b => rw [RD] at r; subst r; rfl
    | str b => rw [RD] at r; subst r; rfl
    | tup t ds => rw [RD] at r; obtain ⟨a, _, rfl, _⟩ := r; rfl
    | lst ds => rw [RD] at r; obtain ⟨a, _, rfl, _⟩ := r; rfl
    | fl ds => rw [RD] at r; obtain ⟨a, _, rfl, _⟩ := r; rfl
    | dK ks ds => rw [RD] at r; obtain ⟨a, _, rfl, _⟩ := r; rfl
    | dT ks ds => rw [RD] at r; obtain ⟨a, _, rfl, _⟩ := r; rfl
theorem fo_isN : OpR X (compareOp .Is) (rM X.K isNF) := by
  intro pins s σ H x y v u Q I rx ry ⟨ex, m, S, wx, wy, w, R, r1, r2, hf, q⟩
  unfold isNF at hf
  split at hf
  · cases hf
    refine op_isN pins s σ H x y v u Q I rx ry ⟨rw_non r2, ?_⟩
    rw [non_iff r1]
    exact q _ H Stp.refl R bl_rw
  · cases hf
theorem fo_notN : OpR X (compareOp .IsNot) (rM X.K notNF) := by
  intro pins s σ H x y v u Q I rx ry ⟨ex, m, S, wx, wy, w, R, r1, r2, hf, q⟩
  unfold notNF at hf
  split at hf
  · cases hf
    refine op_notN pins s σ H x y v u Q I rx ry ⟨rw_non r2, ?_⟩
    rw [non_iff r1]
    exact q _ H Stp.refl R bl_rw
  · cases hf
end

/-! ## dicts -/
section
variable {κ : Type} [DecidableEq κ] {α : Type}
def dget (kvs : List (κ × α)) (k : κ) : Option α := (kvs.find? fun kv => decide (kv.1 = k)).map (·.2)
def dput (kvs : List (κ × α)) (k : κ) (v : α) : List (κ × α) :=
  if (kvs.any fun kv => decide (kv.1 = k)) = true then kvs.map (fun kv => if kv.1 = k then (kv.1, v) else kv) else kvs ++ [(k, v)]
theorem dget_rel {G : α → V → Prop} (k : κ) : ∀ {kvs : List (κ × α)} {xs : List (κ × V)}, Paired (fun p q => p.1 = q.1 ∧ G p.2 q.2) kvs xs →
    (dget kvs k = none ∧ valV xs k = none) ∨ ∃ w v, dget kvs k = some w ∧ valV xs k = some v ∧ G w v
  | _, _, .nil => .inl ⟨rfl, rfl⟩
  | (k1, w) :: kvs, (k2, v) :: xs, .cons ⟨e, g⟩ t => by
    have e : k1 = k2 := e
    subst e
    by_cases h : k1 = k
    · subst h
      exact .inr ⟨w, v, by simp [dget], by simp [valV], g⟩
    · have := dget_rel k t
      simpa [dget, valV, List.find?_cons, h] using this
theorem dput_rel {G : α → V → Prop} (k : κ) {w : α} {v : V} (g : G w v) {kvs : List (κ × α)} {xs : List (κ × V)} (h : Paired (fun p q => p.1 = q.1 ∧ G p.2 q.2) kvs xs) :
    Paired (fun p q => p.1 = q.1 ∧ G p.2 q.2) (dput kvs k w) (putK xs k v) := by
  have an : ∀ {kvs : List (κ × α)} {xs : List (κ × V)}, Paired (fun p q => p.1 = q.1 ∧ G p.2 q.2) kvs xs → (kvs.any fun kv => decide (kv.1 = k)) = (xs.any fun kv => decide (kv.1 = k)) := by
    intro kvs xs h
    induction h with
    | nil => rfl
    | cons r t ih => rw [List.any_cons, List.any_cons, r.1, ih]
  unfold dput putK
  rw [an h]
  clear an
  generalize (xs.any fun kv => decide (kv.1 = k)) = c
  cases c with
  | true =>
    rw [if_pos rfl, if_pos rfl]
    induction h with
    | nil => exact .nil
    | @cons a b l1 l2 r t ih =>
      rw [List.map_cons, List.map_cons]
      refine .cons ?_ ih
      obtain ⟨k1, w1⟩ := a
      obtain ⟨k2, v1⟩ := b
      obtain ⟨e, g1⟩ := r
      have e : k1 = k2 := e
      subst e
      by_cases hk : k1 = k
      · rw [if_pos hk, if_pos hk]; exact ⟨rfl, g⟩
      · rw [if_neg hk, if_neg hk]; exact ⟨rfl, g1⟩
  | false =>
    rw [if_neg Bool.false_ne_true, if_neg Bool.false_ne_true]
    induction h with
    | nil => exact .cons ⟨rfl, g⟩ .nil
    | cons r t ih => exact .cons r ih
theorem dput_length (kvs : List (κ × α)) (k : κ) (v : α) : (dput kvs k v).length ≤ kvs.length + 1 := by
  unfold dput
  split
  · rw [List.length_map]; omega
  · rw [List.length_append]; simp
end
def keyD : D → Option Key
  | .int i => some (.inl i)
  | .str x => some (.inr x)
  | _ => none
def keysD : List D → Option (List Key)
  | [] => some []
  | d :: ds => (keyD d).bind fun k => (keysD ds).map (k :: ·)
def keyK : W → Option Key
  | .v d => keyD d
  | _ => none
def keyT : W → Option (List Key)
  | .v (.tup true ds) => keysD ds
  | _ => none
def dicK (S : Sto) : W → Option (List (Key × W))
  | .v (.dK ks ds) => some (ks.zip (ds.map .v))
  | .ref k => match S[k]? with
    | some (.dK kvs) => some kvs
    | _ => none
  | _ => none
def dicT (S : Sto) : W → Option (List (List Key × W))
  | .v (.dT ks ds) => some (ks.zip (ds.map .v))
  | .ref k => match S[k]? with
    | some (.dT kvs) => some kvs
    | _ => none
  | _ => none
/-- what the dict x holds at the key y, where x is a dict and y a key of its kind -/
def dlook (S : Sto) (x y : W) : Option (Option W) :=
  match dicK S x with
  | some kvs => (keyK y).map (dget kvs)
  | none => match dicT S x with
    | some kvs => (keyT y).map (dget kvs)
    | none => none
section
variable {K : PySem.W.Frag} {ex m : List Addr} {S : Sto} {H : Hp} {w : W} {x : V}
theorem zip_pair {κ : Type} : ∀ {ks : List κ} {ds : List D} {vs : List V}, RDs K (ex ++ m) H ds vs → Paired (fun p q => p.1 = q.1 ∧ RW K ex m H p.2 q.2) (ks.zip (ds.map W.v)) (ks.zip vs)
  | [], _, _, _ => .nil
  | k :: ks, [], vs, h => by rw [RDs] at h; subst h; exact .nil
  | k :: ks, d :: ds, vs, h => by
    rw [RDs] at h
    obtain ⟨x, xs, rfl, h1, h2⟩ := h
    exact .cons ⟨rfl, h1⟩ (zip_pair h2)
theorem dicK_ok (R : Rel K ex m S H) (r : RW K ex m H w x) {kvs : List (Key × W)} (h : dicK S w = some kvs) : ∃ a xs, x = .ref a ∧ H a = some (.dK xs) ∧ Paired (fun p q => p.1 = q.1 ∧ RW K ex m H p.2 q.2) kvs xs := by
  cases w with
  | ref k =>
    obtain ⟨a, e, hk⟩ := r
    have h : (match S[k]? with | some (.dK kvs) => some kvs | _ => none) = some kvs := h
    cases q : S[k]? with
    | none => rw [q] at h; cases h
    | some c =>
      rw [q] at h
      cases c with
      | dK us =>
        cases h
        obtain ⟨xs, h1, h2⟩ := R.cells k _ a q hk
        exact ⟨a, xs, e, h1, h2⟩
      | _ => cases h
  | v d =>
    cases d with
    | dK ks ds =>
      have h : some (ks.zip (ds.map W.v)) = some kvs := h
      cases h
      have r : RD K (ex ++ m) H (.dK ks ds) x := r
      rw [RD] at r
      obtain ⟨a, vs, e, h1, _, _, h3⟩ := r
      exact ⟨a, _, e, h1, zip_pair h3⟩
    | _ => cases h
theorem dicT_ok (R : Rel K ex m S H) (r : RW K ex m H w x) {kvs : List (List Key × W)} (h : dicT S w = some kvs) : ∃ a xs, x = .ref a ∧ H a = some (.dT xs) ∧ Paired (fun p q => p.1 = q.1 ∧ RW K ex m H p.2 q.2) kvs xs := by
  cases w with
  | ref k =>
    obtain ⟨a, e, hk⟩ := r
    have h : (match S[k]? with | some (.dT kvs) => some kvs | _ => none) = some kvs := h
    cases q : S[k]? with
    | none => rw [q] at h; cases h
    | some c =>
      rw [q] at h
      cases c with
      | dT us =>
        cases h
        obtain ⟨xs, h1, h2⟩ := R.cells k _ a q hk
        exact ⟨a, xs, e, h1, h2⟩
      | _ => cases h
  | v d =>
    cases d with
    | dT ks ds =>
      have h : some (ks.zip (ds.map W.v)) = some kvs := h
      cases h
      have r : RD K (ex ++ m) H (.dT ks ds) x := r
      rw [RD] at r
      obtain ⟨a, vs, e, h1, _, _, h3⟩ := r
      exact ⟨a, _, e, h1, zip_pair h3⟩
    | _ => cases h
theorem keyD_ok {X : List Addr} {d : D} {k : Key} {v : V} (r : RD K X H d v) (h : keyD d = some k) : v = kV k := by
  cases d with
  | int i => cases h; rw [RD] at r; exact r
  | str i => cases h; rw [RD] at r; exact r
  | _ => cases h
theorem keysD_ok {X : List Addr} : ∀ {ds : List D} {ks : List Key} {vs : List V}, RDs K X H ds vs → keysD ds = some ks → vs = ks.map kV
  | [], _, _, r, h => by cases h; rw [RDs] at r; exact r
  | d :: ds, ks, vs, r, h => by
    obtain ⟨k, h1, h2⟩ := Option.bind_eq_some_iff.mp (show ((keyD d).bind fun k => (keysD ds).map (k :: ·)) = some ks from h)
    obtain ⟨ks', h3, h4⟩ := Option.map_eq_some_iff.mp h2
    subst h4
    rw [RDs] at r
    obtain ⟨x, xs, rfl, r1, r2⟩ := r
    rw [keyD_ok r1 h1, keysD_ok r2 h3]; rfl
theorem keyK_ok {k : Key} (r : RW K ex m H w x) (h : keyK w = some k) : x = kV k := by
  cases w with
  | ref _ => cases h
  | v d => exact keyD_ok (X := ex ++ m) r h
theorem keyT_ok {k : List Key} (r : RW K ex m H w x) (h : keyT w = some k) : ∃ b, x = .ref b ∧ H b = some (.tup (k.map kV)) := by
  cases w with
  | ref _ => cases h
  | v d =>
    cases d with
    | tup t ds =>
      cases t with
      | false => cases h
      | true =>
        have r : RD K (ex ++ m) H (.tup true ds) x := r
        rw [RD] at r
        obtain ⟨a, vs, e, h1, h2⟩ := r
        refine ⟨a, e, ?_⟩
        rw [← keysD_ok h2 h]
        exact h1
    | _ => cases h
theorem dlook_ok {y : V} {wy : W} {o : Option W} (R : Rel K ex m S H) (r : RW K ex m H w x) (r2 : RW K ex m H wy y) (h : dlook S w wy = some o) :
    ∃ a o', x = .ref a ∧ DGet H a y o' ∧ ((o = none ∧ o' = none) ∨ ∃ z v, o = some z ∧ o' = some v ∧ RW K ex m H z v) := by
  unfold dlook at h
  split at h
  · rename_i kvs hk
    obtain ⟨k, h1, h2⟩ := Option.map_eq_some_iff.mp h
    obtain ⟨a, xs, e, h3, h4⟩ := dicK_ok R r hk
    subst h2
    refine ⟨a, valV xs k, e, ?_, ?_⟩
    · rw [keyK_ok r2 h1]; exact DGet.k h3
    · exact dget_rel k h4
  · split at h
    · rename_i kvs hk
      obtain ⟨k, h1, h2⟩ := Option.map_eq_some_iff.mp h
      obtain ⟨a, xs, e, h3, h4⟩ := dicT_ok R r hk
      obtain ⟨b, eb, hb⟩ := keyT_ok r2 h1
      subst h2
      refine ⟨a, valV xs k, e, ?_, dget_rel k h4⟩
      rw [eb]
      exact DGet.t h3 hb
    · cases h
end

/-! ## in -/
def flatD : D → Bool
  | .non => true | .bl _ => true | .int _ => true | .str _ => true
  | _ => false
def hasD (ds : List D) (d : D) : Bool := ds.any fun z => eqD z d
def inB (S : Sto) (x y : W) : Option Bool :=
  match dlook S y x with
  | some o => some o.isSome
  | none => (seqW S y).bind fun ws => (dW S x).bind fun d => (toDs ws).bind fun ds =>
    if flatD d = true ∧ ds.all flatD = true then some (hasD ds d) else if (lstW S y).isSome = true ∧ okD d = true ∧ okD (.lst ds) = true then some (hasD ds d) else none
def inF : Sto → W → W → Option W := fun S x y => (inB S x y).map fun b => .v (.bl b)
def ninF : Sto → W → W → Option W := fun S x y => (inB S x y).map fun b => .v (.bl !b)
section
variable {K : PySem.W.Frag} {ex m : List Addr} {S : Sto} {H : Hp} {w : W} {x : V}
theorem flat_eq {X Y : List Addr} {d e : D} {v u : V} (hd : RD K X H d v) (he : RD K Y H e u) (fd : flatD d = true) (fe : flatD e = true) : eqV v u = eqD d e := by
  unfold eqD
  cases d <;> cases fd <;> cases e <;> cases fe <;> (simp only [RD] at hd he; subst hd; subst he; rfl)
theorem flat_V {X : List Addr} {d : D} {v : V} (hd : RD K X H d v) (fd : flatD d = true) : flatV v = true := by
  cases d <;> cases fd <;> (rw [RD] at hd; subst hd; rfl)
theorem flat_all {X : List Addr} : ∀ {ds : List D} {vs : List V}, RDs K X H ds vs → ds.all flatD = true → vs.all flatV = true
  | [], _, h, _ => by rw [RDs] at h; subst h; rfl
  | d :: ds, _, h, f => by
    rw [RDs] at h
    obtain ⟨x, xs, rfl, h1, h2⟩ := h
    rw [List.all_cons, Bool.and_eq_true] at f ⊢
    exact ⟨flat_V h1 f.1, flat_all h2 f.2⟩
theorem flat_in {X Y : List Addr} {d : D} {v : V} (hd : RD K Y H d v) (fd : flatD d = true) : ∀ {ds : List D} {vs : List V}, RDs K X H ds vs → ds.all flatD = true → inV v vs = hasD ds d
  | [], _, h, _ => by rw [RDs] at h; subst h; rfl
  | e :: ds, _, h, f => by
    rw [RDs] at h
    obtain ⟨x, xs, rfl, h1, h2⟩ := h
    rw [List.all_cons, Bool.and_eq_true] at f
    show (eqV x v || inV v xs) = (eqD e d || hasD ds d)
    rw [flat_eq h1 hd f.1 fd, flat_in hd fd h2 f.2]
variable {X : Cx}
theorem fo_inB {op : CmpOp} {neg : Bool} (hd : ∀ (pins : List (Addr × Obj)) (σ : L2.St) (H : Hp) (s : Shared) (a : Addr) (y : V) (u : Value) (o : Option V) (Q : Value → Shared → Prop), Inv X pins σ H s → DGet H a y o → RelV y u → (∀ s', Inv X pins σ H s' → Q (.bool (if neg then !o.isSome else o.isSome)) s') → wpAny (model X.prog X.w) X.A (compareOp op u (.ref a)) Q X.xe s)
    (hs : OpR X (compareOp op) (rIn X.K neg)) (hl : OpR X (compareOp op) (fun x y H Q => ∃ d ds, Dp X.K H x d ∧ Dp X.K H y (.list ds) ∧ SeqAt.shaped d = true ∧ SeqAt.shaped (.list ds) = true ∧ Q (.bl (if neg then !(ds.any fun z => PyData.eqv z d) else ds.any fun z => PyData.eqv z d)) H)) :
    OpR X (compareOp op) (rM X.K fun S x y => (inB S x y).map fun b => .v (.bl (if neg then !b else b))) := by
  intro pins s σ H x y v u Q I rx ry ⟨ex, m, S, wx, wy, w, R, r1, r2, hf, q⟩
  obtain ⟨b, h1, h2⟩ := Option.map_eq_some_iff.mp hf
  subst h2
  unfold inB at h1
  split at h1
  · rename_i o ho
    cases h1
    obtain ⟨a, o', e, g, hh⟩ := dlook_ok R r2 r1 ho
    subst e
    cases ry
    refine hd pins σ H s a x v o' _ I g rx fun s' I' => ?_
    have : o'.isSome = o.isSome := by
      rcases hh with ⟨e1, e2⟩ | ⟨z, v, e1, e2, _⟩ <;> rw [e1, e2] <;> rfl
    rw [this]
    exact ⟨.bl _, H, I', rfl, q _ H Stp.refl R bl_rw⟩
  · obtain ⟨ws, h3, h4⟩ := Option.bind_eq_some_iff.mp h1
    obtain ⟨d, h5, h6⟩ := Option.bind_eq_some_iff.mp h4
    obtain ⟨ds, h7, h8⟩ := Option.bind_eq_some_iff.mp h6
    by_cases c : flatD d = true ∧ ds.all flatD = true
    · rw [if_pos c] at h8
      cases h8
      obtain ⟨a, vs, e, hq, rs⟩ := seqW_ok R r2 h3
      have rs := rs.toDs h7
      cases wx with
      | ref k =>
        obtain ⟨ws', h9, h10⟩ := Option.bind_eq_some_iff.mp (show ((trkW S (.ref k)).bind fun ws => (toDs ws).map D.lst) = some d from h5)
        obtain ⟨ds', _, h12⟩ := Option.map_eq_some_iff.mp h10
        subst h12
        cases c.1
      | v d' =>
        have h5 : some d' = some d := h5
        cases h5
        have r1' : RD X.K (ex ++ m) H d x := r1
        refine hs pins s σ H x y v u Q I rx ry ⟨a, vs, e, hq, flat_V r1' c.1, flat_all rs c.2, ?_⟩
        rw [flat_in r1' c.1 rs c.2]
        exact q _ H Stp.refl R bl_rw
    · rw [if_neg c] at h8
      by_cases c2 : (lstW S wy).isSome = true ∧ okD d = true ∧ okD (.lst ds) = true
      · rw [if_pos c2] at h8
        cases h8
        obtain ⟨us, hus⟩ := Option.isSome_iff_exists.mp c2.1
        obtain ⟨a, vs, e, hq, rs⟩ := lstW_ok R r2 hus
        have hsame : us = ws := by
          unfold seqW at h3
          split at h3
          · cases hus
          · rw [hus] at h3; cases h3; rfl
        subst hsame
        have rs := rs.toDs h7
        have c3 := SeqAt.canLay_of_shaped c2.2.2
        rw [pyD, PyData.canLay0] at c3
        have dl : Dp X.K H y (pyD (.lst ds)) := by
          rw [e, pyD]
          exact .lst hq (RDs.dp ds vs rs c3)
        rw [pyD] at dl
        have c4 : SeqAt.shaped (.list (pyDs ds)) = true := by
          have := c2.2.2
          unfold okD at this
          rw [pyD] at this
          exact this
        refine hl pins s σ H x y v u Q I rx ry ⟨pyD d, pyDs ds, dW_dp R r1 h5 (SeqAt.canLay_of_shaped c2.2.1), dl, c2.2.1, c4, ?_⟩
        have : ((pyDs ds).any fun z => PyData.eqv z (pyD d)) = hasD ds d := by
          rw [pyDs_map, List.any_map]; rfl
        rw [this]
        exact q _ H Stp.refl R bl_rw
      · rw [if_neg c2] at h8; cases h8
theorem fo_in (hu : X.A.units + 65 < cLine) : OpR X (compareOp .In) (rM X.K inF) :=
  fo_inB (neg := false) (fun pins σ H s a y u o Q I g r h => d_in (by omega) I g r h) op_in_seq (op_inD hu)
theorem fo_nin (hu : X.A.units + 65 < cLine) : OpR X (compareOp .NotIn) (rM X.K ninF) :=
  fo_inB (neg := true) (fun pins σ H s a y u o Q I g r h => d_notIn (by omega) I g r h) op_notIn_seq (op_notInD hu)
end
end Fy
namespace Fy
open PySem PySem.Spec PyProof.Rows L2

/-! ## truth -/
def truF (S : Sto) (w : W) : Option Bool :=
  match w with
  | .v .non => some false
  | .v (.bl b) => some b
  | .v (.int i) => some (i != 0)
  | .v (.str x) => if x.length ≤ LIM then some ((x.length : Int) != 0) else none
  | w => match seqW S w with
    | some ws => some (!ws.isEmpty)
    | none => (dicK S w).map fun kvs => !kvs.isEmpty
theorem paired_empty {α β : Type} {F : α → β → Prop} {xs : List α} {ys : List β} (h : Paired F xs ys) : xs.isEmpty = ys.isEmpty := by cases h <;> rfl
theorem truF_ok {K : PySem.W.Frag} {ex m : List Addr} {S : Sto} {H : Hp} {w : W} {x : V} {b : Bool} (R : Rel K ex m S H) (r : RW K ex m H w x) (h : truF S w = some b) : TruV K x H b := by
  have gen : (match seqW S w with | some ws => some (!ws.isEmpty) | none => (dicK S w).map fun kvs => !kvs.isEmpty) = some b → TruV K x H b := fun h => by
    split at h
    · rename_i ws hw
      cases h
      obtain ⟨a, vs, rfl, h1, h2⟩ := seqW_ok R r hw
      rcases h1 with h1 | h1
      · exact .inl ⟨vs, h1, by rw [paired_empty h2]⟩
      · exact .inr (.inl ⟨vs, h1, by rw [paired_empty h2]⟩)
    · obtain ⟨kvs, h1, h2⟩ := Option.map_eq_some_iff.mp h
      subst h2
      obtain ⟨a, xs, rfl, h3, h4⟩ := dicK_ok R r h1
      exact .inr (.inr ⟨xs, h3, by rw [paired_empty h4]⟩)
  unfold truF at h
  split at h
  · cases h; rw [rw_non r]; rfl
  · cases h; rw [rw_bl r]; rfl
  · cases h; rw [rw_int r]; rfl
  · rename_i y
    by_cases c : y.length ≤ LIM
    · rw [if_pos c] at h
      cases h
      rw [rw_str r]
      exact ⟨Nat.le_trans c lim_le, rfl⟩
    · rw [if_neg c] at h; cases h
  · exact gen h
def xtru (a : XE) : XT := fun ρ S => (a ρ S).bind fun p => (truF p.2 p.1).map fun b => (b, p.2)
def xand (a b : XE) : XE := fun ρ S => (a ρ S).bind fun p => (truF p.2 p.1).bind fun t => if t = true then b ρ p.2 else some p
def xor (a b : XE) : XE := fun ρ S => (a ρ S).bind fun p => (truF p.2 p.1).bind fun t => if t = true then some p else b ρ p.2
def xnot (a : XE) : XE := xun (fun S x => (truF S x).map fun b => .v (.bl (!b))) a
section
variable {X : Cx} {e a b c : Expr} {pos : Pos} {rest : List Expr}
theorem tMT_tru {K : PySem.W.Frag} {a : XE} {σ : L2.St} {H : Hp} {Q : Bool → Hp → Prop} (h : tMT K (xtru a) σ H Q) : tM K a σ H fun x H' => ∃ k, TruV K x H' k ∧ Q k H' := by
  obtain ⟨ex, ρ, m, S, c, S', Rl, E, hf, q⟩ := h
  obtain ⟨⟨w1, S1⟩, h1, h2⟩ := Option.bind_eq_some_iff.mp hf
  obtain ⟨b1, h3, h4⟩ := Option.map_eq_some_iff.mp h2
  cases h4
  exact ⟨ex, ρ, m, S, w1, S1, Rl, E, h1, fun v m' H' st R' rw => ⟨c, truF_ok R' rw h3, q m' H' st R'⟩⟩
theorem xt_tru {fa : XE} (ha : PE X a (tM X.K fa)) (he : ∀ whole, isTrue a X.env whole = (do let v ← whole; standAt a.pos; holding [v] (truthy v)) := by intro _; rfl) : PT X a (tMT X.K (xtru fa)) :=
  PT.imp (pt_truth ha he) fun _ _ _ h => tMT_tru h
theorem xe_one {op : BoolOp} {fa : XE} (ha : PE X a (tM X.K fa)) : PE X (.BoolOp op [a] pos) (tM X.K fa) := pe_one ha
theorem xe_and {fa fb : XE} (ha : PE X a (tM X.K fa)) (hb : PE X (.BoolOp .And (b :: rest) pos) (tM X.K fb)) : PE X (.BoolOp .And (a :: b :: rest) pos) (tM X.K (xand fa fb)) := by
  refine PE.imp (pe_andT ha hb) fun σ H Q ⟨ex, ρ, m, S, w, S', Rl, E, hf, q⟩ => ?_
  obtain ⟨⟨w1, S1⟩, h1, h2⟩ := Option.bind_eq_some_iff.mp hf
  obtain ⟨t, h3, h4⟩ := Option.bind_eq_some_iff.mp h2
  refine ⟨ex, ρ, m, S, w1, S1, Rl, E, h1, fun v m' H' st R' rw => ⟨t, truF_ok R' rw h3, ?_⟩⟩
  cases t with
  | true => exact ⟨ex, ρ, m', S1, w, S', R', E.mono Rl.kd st, h4, fun v2 m2 H2 st2 R2 r2 => q v2 m2 H2 (st.trans st2) R2 r2⟩
  | false =>
    have h4 : some (w1, S1) = some (w, S') := h4
    cases h4
    exact q v m' H' st R' rw
theorem xe_or {fa fb : XE} (ha : PE X a (tM X.K fa)) (hb : PE X (.BoolOp .Or (b :: rest) pos) (tM X.K fb)) : PE X (.BoolOp .Or (a :: b :: rest) pos) (tM X.K (xor fa fb)) := by
  refine PE.imp (pe_orT ha hb) fun σ H Q ⟨ex, ρ, m, S, w, S', Rl, E, hf, q⟩ => ?_
  obtain ⟨⟨w1, S1⟩, h1, h2⟩ := Option.bind_eq_some_iff.mp hf
  obtain ⟨t, h3, h4⟩ := Option.bind_eq_some_iff.mp h2
  refine ⟨ex, ρ, m, S, w1, S1, Rl, E, h1, fun v m' H' st R' rw => ⟨t, truF_ok R' rw h3, ?_⟩⟩
  cases t with
  | false => exact ⟨ex, ρ, m', S1, w, S', R', E.mono Rl.kd st, h4, fun v2 m2 H2 st2 R2 r2 => q v2 m2 H2 (st.trans st2) R2 r2⟩
  | true =>
    have h4 : some (w1, S1) = some (w, S') := h4
    cases h4
    exact q v m' H' st R' rw
theorem xe_not {fa : XE} (ha : PE X a (tM X.K fa)) : PE X (.UnaryOp .Not a pos) (tM X.K (xnot fa)) := by
  refine PE.imp (pe_notT ha) fun σ H Q h => ?_
  refine tM_u (show tM X.K (xu (fun x S => ((truF S x).map fun b => W.v (.bl (!b))).map fun w => (w, S)) fa) σ H Q from h) fun ex ρ m S w x z S' H1 R E r hk q => ?_
  obtain ⟨z', h1, h2⟩ := Option.map_eq_some_iff.mp hk
  obtain ⟨b, h3, h4⟩ := Option.map_eq_some_iff.mp h1
  subst h4
  cases h2
  exact ⟨b, truF_ok R r h3, q _ m H1 Stp.refl R bl_rw⟩
/-- a op1 b op2 c -/
def xchain (f g : Sto → W → W → Option W) (a b c : XE) : XE := fun ρ S => (a ρ S).bind fun p => (b ρ p.2).bind fun q => (f q.2 p.1 q.1).bind fun t => match t with
  | .v (.bl true) => (c ρ q.2).bind fun r => (g r.2 q.1 r.1).map fun w => (w, r.2)
  | .v (.bl false) => some (.v (.bl false), q.2)
  | _ => none
theorem xe_chain_aux {K : PySem.W.Frag} {f g : Sto → W → W → Option W} {fa fb fc : XE} {σ : L2.St} {H : Hp} {Q : VK} (h : tM K (xchain f g fa fb fc) σ H Q) : tChain (rM K f) (rM K g) (tM K fa) (tM K fb) (tM K fc) σ H Q := by
  obtain ⟨ex, ρ, m, S, w, S', Rl, E, hf, q⟩ := h
  obtain ⟨⟨w1, S1⟩, h1, h2⟩ := Option.bind_eq_some_iff.mp hf
  obtain ⟨⟨w2, S2⟩, h3, h4⟩ := Option.bind_eq_some_iff.mp h2
  obtain ⟨t, h5, h6⟩ := Option.bind_eq_some_iff.mp h4
  refine ⟨ex, ρ, m, S, w1, S1, Rl, E, h1, fun v1 m1 H1 st1 R1 r1 => ?_⟩
  refine ⟨ex, ρ, m1, S1, w2, S2, R1, E.mono Rl.kd st1, h3, fun v2 m2 H2 st2 R2 r2 => ?_⟩
  refine ⟨ex, m2, S2, w1, w2, t, R2, RW.mono R1.kd st2 _ _ r1, r2, h5, fun v H3 st3 R3 r3 => ?_⟩
  have E3 : RE K ex m2 H3 ρ σ := E.mono Rl.kd ((st1.trans st2).trans st3)
  split at h6
  · refine ⟨true, rw_bl r3, ?_⟩
    obtain ⟨⟨w4, S4⟩, h7, h8⟩ := Option.bind_eq_some_iff.mp h6
    obtain ⟨w5, h9, h10⟩ := Option.map_eq_some_iff.mp h8
    cases h10
    rw [if_pos rfl]
    refine ⟨ex, ρ, m2, S2, w4, S4, R3, E3, h7, fun v4 m4 H4 st4 R4 r4 => ?_⟩
    exact ⟨ex, m4, S4, w2, w4, w, R4, RW.mono R3.kd st4 _ _ (RW.mono R2.kd st3 _ _ r2), r4, h9, fun v5 H5 st5 R5 r5 => q v5 m4 H5 ((((st1.trans st2).trans st3).trans st4).trans st5) R5 r5⟩
  · refine ⟨false, rw_bl r3, ?_⟩
    cases h6
    rw [if_neg Bool.false_ne_true]
    exact q _ m2 H3 ((st1.trans st2).trans st3) R3 bl_rw
  · cases h6
theorem xe_chain {op op' : CmpOp} {f g : Sto → W → W → Option W} {fa fb fc : XE} (ho : OpR X (compareOp op) (rM X.K f)) (ho' : OpR X (compareOp op') (rM X.K g)) (ha : PE X a (tM X.K fa)) (hb : PE X b (tM X.K fb)) (hc : PE X c (tM X.K fc))
    (hm : lastMarks [op, op'] [b, c] = false := by with_unfolding_all rfl) : PE X (.Compare a [op, op'] [b, c] pos) (tM X.K (xchain f g fa fb fc)) := PE.imp (pe_chain ho ho' ha hb hc hm) fun _ _ _ h => xe_chain_aux h
theorem xt_chain {op op' : CmpOp} {f g : Sto → W → W → Option W} {fa fb fc : XE} (ho : OpR X (compareOp op) (rM X.K f)) (ho' : OpR X (compareOp op') (rM X.K g)) (ha : PE X a (tM X.K fa)) (hb : PE X b (tM X.K fb)) (hc : PE X c (tM X.K fc))
    (hm : lastMarks [op, op'] [b, c] = false := by with_unfolding_all rfl) : PT X (.Compare a [op, op'] [b, c] pos) (tMT X.K (xtb (xchain f g fa fb fc))) := PT.imp (pt_chain ho ho' ha hb hc hm) fun _ _ _ h => xe_chain_aux (tMT_b h)
end

/-! ## subscripts -/
def intOf : W → Option Int
  | .v (.int i) => some i
  | _ => none
theorem intOf_eq {w : W} {i : Int} (h : intOf w = some i) : w = .v (.int i) := by
  cases w with
  | ref _ => cases h
  | v d => cases d <;> cases h; rfl
def strOf : W → Option Str
  | .v (.str i) => some i
  | _ => none
theorem strOf_eq {w : W} {i : Str} (h : strOf w = some i) : w = .v (.str i) := by
  cases w with
  | ref _ => cases h
  | v d => cases d <;> cases h; rfl
def ixF : Sto → W → W → Option W := fun S x y =>
  match seqW S x with
  | some ws => (intOf y).bind fun i => atI ws i
  | none => match strOf x with
    | some z => if z.length ≤ LIM then (intOf y).bind fun i => (atI z.cps.toList i).map fun c => .v (.str ⟨#[c]⟩) else none
    | none => (dlook S x y).join
section
variable {X : Cx} {e a b c : Expr} {pos : Pos}
theorem ix_dict (hu : X.A.units + 1 < cLine) : IxR X (fun x y H Q => ∃ a v, x = .ref a ∧ DGet H a y (some v) ∧ Q v H) := by
  intro value slice pins s σ H x y v u Q I rx ry ⟨a, z, e, g, q⟩ hs
  subst e
  obtain rfl : v = Value.ref a := rx
  have hT := dict_typeIs I g
  unfold subscriptTail
  refine wpAny_bind ?_
  rw [getitemInPython_of_ne hT.not_modules]
  refine wpAny_bind (wpAny_specialOf hT PySem.F.slot_dict_getitem.lookup ?_)
  have fin : wpAny (model X.prog X.w) X.A (subscripted slice false (.ref a) u) (fun r s₃ => wpAny (model X.prog X.w) X.A (letTemporaryGo value (.ref a) r >>= fun _ => pure r) (EP X pins σ Q) X.xe s₃) X.xe s := by
    rw [hs]
    exact wpAny_operating (d_getItem hu I g ry fun w' s3 I3 rw' => wpAny_bind (wpAny_letTemporaryGo (wpAny_pure ⟨z, H, I3, rw', q⟩)))
  first
    | exact wpAny_pure (wpAny_bind fin)
    | exact wpAny_bind (wpAny_pure (wpAny_bind fin))
    | exact wpAny_bind fin
theorem fo_ix (hu : X.A.units + 1 < cLine) : IxR X (rM X.K ixF) := by
  intro value slice pins s σ H x y v u Q I rx ry ⟨ex, m, S, wx, wy, w, R, r1, r2, hf, q⟩ hs
  unfold ixF at hf
  split at hf
  · rename_i ws hw
    obtain ⟨i, h0, hf⟩ := Option.bind_eq_some_iff.mp hf
    rw [intOf_eq h0] at r2
    obtain ⟨p, vs, e, h1, h2⟩ := seqW_ok R r1 hw
    obtain ⟨z, h3, h4⟩ := atI_rel h2 hf
    rcases h1 with h1 | h1
    · exact ix_list value slice pins s σ H x y v u Q I rx ry ⟨p, vs, i, z, e, rw_int r2, h1, h3, q z H Stp.refl R h4⟩ hs
    · exact ix_tup value slice pins s σ H x y v u Q I rx ry ⟨p, vs, i, z, e, rw_int r2, h1, h3, q z H Stp.refl R h4⟩ hs
  · split at hf
    · rename_i z hz
      rw [strOf_eq hz] at r1
      by_cases c : z.length ≤ LIM
      · rw [if_pos c] at hf
        obtain ⟨i, h0, hf⟩ := Option.bind_eq_some_iff.mp hf
        rw [intOf_eq h0] at r2
        obtain ⟨d, h1, h2⟩ := Option.map_eq_some_iff.mp hf
        subst h2
        exact ix_str value slice pins s σ H x y v u Q I rx ry ⟨z, i, d, rw_str r1, rw_int r2, Nat.le_trans c lim_le, h1, q _ H Stp.refl R str_rw⟩ hs
      · rw [if_neg c] at hf; cases hf
    · have hf' : dlook S wx wy = some (some w) := by
        cases hd : dlook S wx wy with
        | none => rw [hd] at hf; cases hf
        | some o => rw [hd] at hf; cases o with
          | none => cases hf
          | some w' => cases hf; rfl
      obtain ⟨p, o', e, g, hh⟩ := dlook_ok R r1 r2 hf'
      rcases hh with ⟨e1, _⟩ | ⟨z, v', e1, e2, r⟩
      · cases e1
      · cases e1
        subst e2
        exact ix_dict hu value slice pins s σ H x y v u Q I rx ry ⟨p, v', e, g, q _ H Stp.refl R r⟩ hs
theorem xe_ix {fa fb : XE} (hu : X.A.units + 1 < cLine) (ha : PE X a (tM X.K fa)) (hb : PE X b (tM X.K fb)) (hs : PlainIx b := by intro _ _; rfl) : PE X (.Subscript a b pos) (tM X.K (xop ixF fa fb)) := PE.imp (pe_ix (fo_ix hu) ha hb hs) fun _ _ _ h => tM_op h
/-! slices -/
abbrev XO := Rho → Sto → Option (Option Int × Sto)
def tMO (K : PySem.W.Frag) (f : XO) : TO := fun σ H Q => ∃ ex ρ m S o S', Rel K ex m S H ∧ RE K ex m H ρ σ ∧ f ρ S = some (o, S') ∧ ∀ m' H', Stp m H m' H' → Rel K ex m' S' H' → Q o H'
theorem PO.imp {o : Option Expr} {t t' : TO} (h : PO X o t') (i : ∀ σ H Q, t σ H Q → t' σ H Q) : PO X o t := ⟨fun pins s σ H Q I q => h.run pins s σ H Q I (i σ H Q q)⟩
def xo_none : XO := fun _ S => some (none, S)
def xo_some (a : XE) : XO := fun ρ S => (a ρ S).bind fun p => (intOf p.1).map fun i => (some i, p.2)
theorem xp_none : PO X none (tMO X.K xo_none) := PO.imp po_none fun σ H Q ⟨ex, ρ, m, S, o, S', R, E, hf, q⟩ => by
  have hf : some ((none : Option Int), S) = some (o, S') := hf
  cases hf
  exact q m H Stp.refl R
theorem xp_some {fa : XE} (h : PE X e (tM X.K fa)) : PO X (some e) (tMO X.K (xo_some fa)) := PO.imp (po_some h) fun σ H Q ⟨ex, ρ, m, S, o, S', R, E, hf, q⟩ => by
  obtain ⟨⟨w1, S1⟩, h1, h2⟩ := Option.bind_eq_some_iff.mp hf
  refine ⟨ex, ρ, m, S, w1, S1, R, E, h1, fun v m' H' st R' r => ?_⟩
  obtain ⟨i, h3, h4⟩ := Option.map_eq_some_iff.mp h2
  cases h4
  rw [intOf_eq (w := w1) h3] at r
  exact ⟨i, rw_int r, q m' H' st R'⟩
def cutW {α : Type} (xs : List α) (lo hi : Option Int) : List α := (xs.drop (HT.sIx xs.length 0 lo)).take (HT.sIx xs.length xs.length hi - HT.sIx xs.length 0 lo)
theorem cutW_rel {K : PySem.W.Frag} {ex m : List Addr} {H : Hp} {ws : List W} {vs : List V} (h : RWs K ex m H ws vs) (lo hi : Option Int) : RWs K ex m H (cutW ws lo hi) (cutV vs lo hi) := by
  unfold cutW cutV
  rw [h.length]
  exact (h.drop _).take _
/-- a tuple's, a text's slice -/
def slF (S : Sto) (x : W) (lo hi : Option Int) : Option W := match x with
  | .v (.tup t ds) => some (.v (.tup t (cutW ds lo hi)))
  | .v (.str z) => if z.length ≤ LIM then some (.v (.str (cutS z lo hi))) else none
  | x => (lstW S x).bind fun ws => (toDs (cutW ws lo hi)).map fun ds => .v (.lst ds)
def xsl (a : XE) (lo hi : XO) : XE := fun ρ S => (a ρ S).bind fun p => (lo ρ p.2).bind fun q => (hi ρ q.2).bind fun r => (slF r.2 p.1 q.1 r.1).map fun w => (w, r.2)
theorem cutW_map {α β : Type} (f : α → β) (xs : List α) (lo hi : Option Int) : cutW (xs.map f) lo hi = (cutW xs lo hi).map f := by
  unfold cutW
  rw [List.length_map, List.map_take, List.map_drop]
theorem fo_sl : SlR X (fun x lo hi H Q => ∃ ex m S wx w, Rel X.K ex m S H ∧ RW X.K ex m H wx x ∧ slF S wx lo hi = some w ∧ ∀ v H', Stp m H m H' → Rel X.K ex m S H' → RW X.K ex m H' w v → Q v H') := by
  intro pins s σ H x v vl vu lo hi sl Q I rx hs pl pu ⟨ex, m, S, wx, w, R, r1, hf, q⟩
  unfold slF at hf
  split at hf
  · rename_i t ds
    cases hf
    have r1' : RD X.K (ex ++ m) H (.tup t ds) x := r1
    rw [RD] at r1'
    obtain ⟨a, vs, e, ha, hd⟩ := r1'
    have hc : RDs X.K (ex ++ m) H (cutW ds lo hi) (cutV vs lo hi) := by
      have := cutW_rel (ex := ex) (m := m) (RDs.ws hd) lo hi
      rw [cutW_map] at this
      exact this.ds
    refine sl_tupA pins s σ H x v vl vu lo hi sl Q I rx hs pl pu ⟨a, vs, e, tupAt_sq ha, fun hw => ?_, fun _ p hp => ?_⟩
    · refine q _ H Stp.refl R ?_
      show RD X.K (ex ++ m) H (.tup t (cutW ds lo hi)) _
      rw [RD]
      have ev : cutV vs lo hi = vs := by unfold cutV; rw [hw.1, hw.2]; simp
      rw [ev] at hc
      exact ⟨a, vs, rfl, ha, hc⟩
    · obtain ⟨st, R2, r⟩ := new_tup (t := t) R hp hc
      exact q _ _ st R2 r
  · rename_i z
    by_cases c : z.length ≤ LIM
    · rw [if_pos c] at hf
      cases hf
      exact sl_str pins s σ H x v vl vu lo hi sl Q I rx hs pl pu ⟨z, rw_str r1, Nat.le_trans c lim_le, q _ H Stp.refl R str_rw⟩
    · rw [if_neg c] at hf; cases hf
  · obtain ⟨ws, h1, h2⟩ := Option.bind_eq_some_iff.mp hf
    obtain ⟨ds, h3, h4⟩ := Option.map_eq_some_iff.mp h2
    subst h4
    obtain ⟨a, vs, e, h5, h6⟩ := lstW_ok R r1 h1
    refine sl_list pins s σ H x v vl vu lo hi sl Q I rx hs pl pu ⟨a, vs, e, h5, fun p hp => ?_⟩
    obtain ⟨st, R2, r⟩ := new_lst R hp ((cutW_rel h6 lo hi).toDs h3)
    exact q _ _ st R2 r
theorem xe_sl {fa : XE} {fl fh : XO} {lo hi : Option Expr} {p2 : Pos} (ha : PE X a (tM X.K fa)) (hl : PO X lo (tMO X.K fl)) (hh : PO X hi (tMO X.K fh)) : PE X (.Subscript a (.Slice lo hi none p2) pos) (tM X.K (xsl fa fl fh)) := by
  refine PE.imp (pe_slice fo_sl ha hl hh) fun σ H Q ⟨ex, ρ, m, S, w, S', R, E, hf, q⟩ => ?_
  obtain ⟨⟨w1, S1⟩, h1, h2⟩ := Option.bind_eq_some_iff.mp hf
  obtain ⟨⟨l, S2⟩, h3, h4⟩ := Option.bind_eq_some_iff.mp h2
  obtain ⟨⟨u, S3⟩, h5, h6⟩ := Option.bind_eq_some_iff.mp h4
  obtain ⟨w', h7, h8⟩ := Option.map_eq_some_iff.mp h6
  cases h8
  refine ⟨ex, ρ, m, S, w1, S1, R, E, h1, fun v1 m1 H1 st1 R1 r1 => ?_⟩
  refine ⟨ex, ρ, m1, S1, l, S2, R1, E.mono R.kd st1, h3, fun m2 H2 st2 R2 => ?_⟩
  refine ⟨ex, ρ, m2, S2, u, S3, R2, E.mono R.kd (st1.trans st2), h5, fun m3 H3 st3 R3 => ?_⟩
  exact ⟨ex, m3, S3, w1, w, R3, RW.mono R2.kd st3 _ _ (RW.mono R1.kd st2 _ _ r1), h7, fun v H' st R' r => q v m3 H' (((st1.trans st2).trans st3).trans st) R' r⟩
end

/-! ## calls of what Python brings -/
def rC (K : PySem.W.Frag) (f : Sto → List W → Option W) : List V → Hp → VK → Prop := fun xs H Q => ∃ ex m S ws w, Rel K ex m S H ∧ RWs K ex m H ws xs ∧ f S ws = some w ∧
  ∀ v H', Stp m H m H' → Rel K ex m S H' → RW K ex m H' w v → Q v H'
/-- a new list comes -/
def rCL (K : PySem.W.Frag) (f : Sto → List W → Option (List W)) : List V → Hp → VK → Prop := fun xs H Q => ∃ ex m S ws us, Rel K ex m S H ∧ RWs K ex m H ws xs ∧ f S ws = some us ∧
  ∀ p vs, H p = none → RWs K ex m H us vs → Q (.ref p) (upd H p (.lst vs))
def xcall (f : Sto → List W → Option W) (a : XA) : XE := fun ρ S => (a ρ S).bind fun p => (f p.2 p.1).map fun w => (w, p.2)
def xcallL (f : Sto → List W → Option (List W)) (a : XA) : XA := fun ρ S => (a ρ S).bind fun p => (f p.2 p.1).map fun w => (w, p.2)
section
variable {X : Cx} {e a b c : Expr} {pos p : Pos} {es : List Expr} {x : Str} {id T : String} {fa : XA}
theorem tM_call {K : PySem.W.Frag} {f : Sto → List W → Option W} {fa : XA} {σ : L2.St} {H : Hp} {Q : VK} (h : tM K (xcall f fa) σ H Q) : tCB (rC K f) (tMA K fa) σ H Q := by
  obtain ⟨ex, ρ, m, S, w, S', R, E, hf, q⟩ := h
  obtain ⟨⟨ws, S1⟩, h1, h2⟩ := Option.bind_eq_some_iff.mp hf
  obtain ⟨w', h3, h4⟩ := Option.map_eq_some_iff.mp h2
  cases h4
  exact ⟨ex, ρ, m, S, ws, S1, R, E, h1, fun vs m' H' st R' r => ⟨ex, m', S1, ws, w, R', r, h3, fun v H2 st2 R2 r2 => q v m' H2 (st.trans st2) R2 r2⟩⟩
theorem tML_call {K : PySem.W.Frag} {f : Sto → List W → Option (List W)} {fa : XA} {σ : L2.St} {H : Hp} {Q : VK} (h : tML K (xcallL f fa) σ H Q) : tCB (rCL K f) (tMA K fa) σ H Q := by
  obtain ⟨ex, ρ, m, S, w, S', R, E, hf, q⟩ := h
  obtain ⟨⟨ws, S1⟩, h1, h2⟩ := Option.bind_eq_some_iff.mp hf
  obtain ⟨w', h3, h4⟩ := Option.map_eq_some_iff.mp h2
  cases h4
  refine ⟨ex, ρ, m, S, ws, S1, R, E, h1, fun vs m' H' st R' r => ⟨ex, m', S1, ws, w, R', r, h3, fun p vs2 hp r2 => ?_⟩⟩
  obtain ⟨R2, st2, mo⟩ := R'.laidF (o := .lst vs2) hp trivial
  obtain ⟨f1, f2⟩ := st.fresh R.kd R' hp
  exact q p vs2 m' _ (st.trans st2) R2 f1 upd_same (Paired.mapP r2 mo)
theorem xe_callB {f : Sto → List W → Option W} (hc : CallR X (.builtin id) (rC X.K f)) (hg : Gl X x) (hm : X.mg x = none) (hv : bootBuiltins x = some (.builtin id)) (ha : PA X (e :: es) (tMA X.K fa)) (hn : x ≠ "__name__" := by decide) (hdb : (x == ("__debug__" : Str)) = false := by decide)
    (he : starEach (e :: es) X.env = (false, eval e X.env) :: starEach es X.env := by rfl) (hpl : (backTo pos (starEach es X.env)).any (·.1) = false := by rfl) : PE X (.Call (.Name x p) (e :: es) [] pos) (tM X.K (xcall f fa)) :=
  PE.imp (pe_callB hc hg hm hv ha hn hdb he hpl) fun _ _ _ h => tM_call h
theorem xe_callTy {f : Sto → List W → Option W} (hc : CallR X (.type T) (rC X.K f)) (hg : Gl X x) (hm : X.mg x = none) (hv : bootBuiltins x = some (.type T)) (ha : PA X (e :: es) (tMA X.K fa)) (hn : x ≠ "__name__" := by decide) (hdb : (x == ("__debug__" : Str)) = false := by decide)
    (he : starEach (e :: es) X.env = (false, eval e X.env) :: starEach es X.env := by rfl) (hpl : (backTo pos (starEach es X.env)).any (·.1) = false := by rfl) : PE X (.Call (.Name x p) (e :: es) [] pos) (tM X.K (xcall f fa)) :=
  PE.imp (pe_callTy hc hg hm hv ha hn hdb he hpl) fun _ _ _ h => tM_call h
theorem xl_callB {f : Sto → List W → Option (List W)} (hc : CallR X (.builtin id) (rCL X.K f)) (hg : Gl X x) (hm : X.mg x = none) (hv : bootBuiltins x = some (.builtin id)) (ha : PA X (e :: es) (tMA X.K fa)) (hn : x ≠ "__name__" := by decide) (hdb : (x == ("__debug__" : Str)) = false := by decide)
    (he : starEach (e :: es) X.env = (false, eval e X.env) :: starEach es X.env := by rfl) (hpl : (backTo pos (starEach es X.env)).any (·.1) = false := by rfl) : PE X (.Call (.Name x p) (e :: es) [] pos) (tML X.K (xcallL f fa)) :=
  PE.imp (pe_callB hc hg hm hv ha hn hdb he hpl) fun _ _ _ h => tML_call h
theorem xl_callTy {f : Sto → List W → Option (List W)} (hc : CallR X (.type T) (rCL X.K f)) (hg : Gl X x) (hm : X.mg x = none) (hv : bootBuiltins x = some (.type T)) (ha : PA X (e :: es) (tMA X.K fa)) (hn : x ≠ "__name__" := by decide) (hdb : (x == ("__debug__" : Str)) = false := by decide)
    (he : starEach (e :: es) X.env = (false, eval e X.env) :: starEach es X.env := by rfl) (hpl : (backTo pos (starEach es X.env)).any (·.1) = false := by rfl) : PE X (.Call (.Name x p) (e :: es) [] pos) (tML X.K (xcallL f fa)) :=
  PE.imp (pe_callTy hc hg hm hv ha hn hdb he hpl) fun _ _ _ h => tML_call h
/-- a module's own name for a built-in function (math.gcd) -/
theorem xe_callM {f : Sto → List W → Option W} (hc : CallR X (.builtin id) (rC X.K f)) (hg : Gl X x) (hm : X.mg x = some (.builtin id)) (ha : PA X (e :: es) (tMA X.K fa)) (hdb : (x == ("__debug__" : Str)) = false := by decide)
    (he : starEach (e :: es) X.env = (false, eval e X.env) :: starEach es X.env := by rfl) (hpl : (backTo pos (starEach es X.env)).any (·.1) = false := by rfl) : PE X (.Call (.Name x p) (e :: es) [] pos) (tM X.K (xcall f fa)) :=
  PE.imp (pe_callBfun hc hg hm ha hdb he hpl) fun _ _ _ h => tM_call h

/-! the functions -/
def lenF : Sto → List W → Option W
  | S, [x] => match seqW S x with
    | some ws => some (.v (.int ws.length))
    | none => match x with
      | .v (.str z) => if z.length ≤ LIM then some (.v (.int z.length)) else none
      | x => match dicK S x with
        | some kvs => some (.v (.int kvs.length))
        | none => (dicT S x).map fun kvs => .v (.int kvs.length)
  | _, _ => none
def absF : Sto → List W → Option W
  | _, [.v (.int i)] => some (.v (.int (if i < 0 then -i else i)))
  | _, _ => none
def intF : Sto → List W → Option W
  | _, [.v (.int i)] => some (.v (.int i))
  | _, [.v (.bl k)] => some (.v (.int (if k then 1 else 0)))
  | _, _ => none
def gcdF : Sto → List W → Option W
  | _, [.v (.int i), .v (.int j)] => some (.v (.int (Nat.gcd i.natAbs j.natAbs : Nat)))
  | _, _ => none
def intsW (S : Sto) (x : W) : Option (List Int) := (lstW S x).bind fun ws => (toDs ws).bind intsD
def sumF : Sto → List W → Option W
  | S, [x] => (intsW S x).map fun ns => .v (.int ns.sum)
  | _, _ => none
def blsD : List D → Option (List Bool)
  | [] => some []
  | .bl i :: r => (blsD r).map (i :: ·)
  | _ :: _ => none
def blsW (S : Sto) (x : W) : Option (List Bool) := (lstW S x).bind fun ws => (toDs ws).bind blsD
def anyF : Sto → List W → Option W
  | S, [x] => (blsW S x).map fun bs => .v (.bl (bs.any fun b => b))
  | _, _ => none
def allF : Sto → List W → Option W
  | S, [x] => (blsW S x).map fun bs => .v (.bl (bs.all fun b => b))
  | _, _ => none
def lsF : Sto → List W → Option (List W)
  | S, [x] => seqW S x
  | _, _ => none
def tupF (t : Bool) : Sto → List W → Option W
  | S, [x] => match x with
    | .v (.tup t' ds) => if t' = t then some (.v (.tup t ds)) else none
    | x => (lstW S x).bind fun ws => (toDs ws).map fun ds => .v (.tup t ds)
  | _, _ => none
theorem rws1 {K : PySem.W.Frag} {ex m : List Addr} {H : Hp} {w : W} {xs : List V} (r : RWs K ex m H [w] xs) : ∃ x, xs = [x] ∧ RW K ex m H w x := by
  cases r with
  | cons r t => cases t; exact ⟨_, rfl, r⟩
theorem rws2 {K : PySem.W.Frag} {ex m : List Addr} {H : Hp} {w u : W} {xs : List V} (r : RWs K ex m H [w, u] xs) : ∃ x y, xs = [x, y] ∧ RW K ex m H w x ∧ RW K ex m H u y := by
  cases r with
  | cons r t => obtain ⟨y, rfl, r2⟩ := rws1 t; exact ⟨_, y, rfl, r, r2⟩
theorem fc_len : CallR X (.builtin "len") (rC X.K lenF) := by
  intro pins s σ H xs us Q I rx ⟨ex, m, S, ws, w, R, rw, hf, q⟩
  unfold lenF at hf
  split at hf
  · obtain ⟨y, rfl, r⟩ := rws1 rw
    split at hf
    · rename_i ws' hw
      cases hf
      obtain ⟨a, vs, e, h1, h2⟩ := seqW_ok R r hw
      refine call_len_seq pins s σ H _ us Q I rx ⟨a, vs, by rw [e], h1, ?_⟩
      rw [← h2.length]
      exact q _ H Stp.refl R int_rw
    · split at hf
      · rename_i z _
        by_cases c : z.length ≤ LIM
        · rw [if_pos c] at hf
          cases hf
          exact call_len_str pins s σ H _ us Q I rx ⟨z, by rw [rw_str r], Nat.le_trans c lim_le, q _ H Stp.refl R int_rw⟩
        · rw [if_neg c] at hf; cases hf
      · split at hf
        · rename_i kvs hk
          cases hf
          obtain ⟨a, xs', e, h1, h2⟩ := dicK_ok R r hk
          refine call_lenD pins s σ H _ us Q I rx ⟨a, xs', by rw [e], h1, ?_⟩
          rw [← show kvs.length = xs'.length from Paired.length h2]
          exact q _ H Stp.refl R int_rw
        · obtain ⟨kvs, hk, h0⟩ := Option.map_eq_some_iff.mp hf
          subst h0
          obtain ⟨a, xs', e, h1, h2⟩ := dicT_ok R r hk
          refine call_len_dT pins s σ H _ us Q I rx ⟨a, xs', by rw [e], h1, ?_⟩
          rw [← show kvs.length = xs'.length from Paired.length h2]
          exact q _ H Stp.refl R int_rw
  · cases hf
theorem fc_abs : CallR X (.builtin "abs") (rC X.K absF) := by
  intro pins s σ H xs us Q I rx ⟨ex, m, S, ws, w, R, rw, hf, q⟩
  unfold absF at hf
  split at hf
  · obtain ⟨y, rfl, r⟩ := rws1 rw
    cases hf
    exact call_abs pins s σ H _ us Q I rx ⟨_, by rw [rw_int r], q _ H Stp.refl R int_rw⟩
  · cases hf
theorem fc_int : CallR X (.type "int") (rC X.K intF) := by
  intro pins s σ H xs us Q I rx ⟨ex, m, S, ws, w, R, rw, hf, q⟩
  unfold intF at hf
  split at hf
  · obtain ⟨y, rfl, r⟩ := rws1 rw
    cases hf
    exact call_int1 pins s σ H _ us Q I rx (.inl ⟨_, by rw [rw_int r], q _ H Stp.refl R int_rw⟩)
  · obtain ⟨y, rfl, r⟩ := rws1 rw
    cases hf
    exact call_int1 pins s σ H _ us Q I rx (.inr ⟨_, by rw [rw_bl r], q _ H Stp.refl R int_rw⟩)
  · cases hf
theorem fc_gcd : CallR X (.builtin "math.gcd") (rC X.K gcdF) := by
  intro pins s σ H xs us Q I rx ⟨ex, m, S, ws, w, R, rw, hf, q⟩
  unfold gcdF at hf
  split at hf
  · obtain ⟨y, z, rfl, r, r2⟩ := rws2 rw
    cases hf
    exact cr_gcd pins s σ H _ us Q I rx ⟨_, _, by rw [rw_int r, rw_int r2], q _ H Stp.refl R int_rw⟩
  · cases hf
theorem intsW_ok {K : PySem.W.Frag} {ex m : List Addr} {S : Sto} {H : Hp} {w : W} {x : V} {ns : List Int} (R : Rel K ex m S H) (r : RW K ex m H w x) (h : intsW S w = some ns) : ∃ a, x = .ref a ∧ SqL K H a (ns.map V.int) := by
  obtain ⟨ws, h1, h2⟩ := Option.bind_eq_some_iff.mp h
  obtain ⟨ds, h3, h4⟩ := Option.bind_eq_some_iff.mp h2
  obtain ⟨a, vs, e, h5, h6⟩ := lstW_ok R r h1
  have := intsD_eq h4
  subst this
  have e2 := (h6.toDs h3).ints
  subst e2
  exact ⟨a, e, h5⟩
theorem blsD_eq : ∀ {ds : List D} {ns : List Bool}, blsD ds = some ns → ds = ns.map D.bl
  | [], _, h => by cases h; rfl
  | .bl i :: r, ns, h => by
    obtain ⟨ms, h1, h2⟩ := Option.map_eq_some_iff.mp (show (blsD r).map (i :: ·) = some ns from h)
    subst h2
    rw [blsD_eq h1]; rfl
theorem blsD_map : ∀ ns : List Bool, blsD (ns.map D.bl) = some ns
  | [] => rfl
  | i :: ns => by show (blsD (ns.map D.bl)).map (i :: ·) = _; rw [blsD_map ns]; rfl
theorem RDs.bls {K : PySem.W.Frag} {X : List Addr} {H : Hp} : ∀ {ns : List Bool} {vs : List V}, RDs K X H (ns.map D.bl) vs → vs = ns.map V.bl
  | [], _, h => by rw [List.map_nil, RDs] at h; exact h
  | n :: ns, _, h => by
    rw [List.map_cons, RDs] at h
    obtain ⟨x, xs, rfl, h1, h2⟩ := h
    rw [RD] at h1
    rw [h1, RDs.bls h2]; rfl
theorem blsW_ok {K : PySem.W.Frag} {ex m : List Addr} {S : Sto} {H : Hp} {w : W} {x : V} {ns : List Bool} (R : Rel K ex m S H) (r : RW K ex m H w x) (h : blsW S w = some ns) : ∃ a, x = .ref a ∧ SqL K H a (ns.map V.bl) := by
  obtain ⟨ws, h1, h2⟩ := Option.bind_eq_some_iff.mp h
  obtain ⟨ds, h3, h4⟩ := Option.bind_eq_some_iff.mp h2
  obtain ⟨a, vs, e, h5, h6⟩ := lstW_ok R r h1
  have := blsD_eq h4
  subst this
  have e2 := (h6.toDs h3).bls
  subst e2
  exact ⟨a, e, h5⟩
theorem fc_sum (hc : X.calm = true) : CallR X (.builtin "sum") (rC X.K sumF) := by
  intro pins s σ H xs us Q I rx ⟨ex, m, S, ws, w, R, rw, hf, q⟩
  unfold sumF at hf
  split at hf
  · obtain ⟨y, rfl, r⟩ := rws1 rw
    obtain ⟨ns, h1, h2⟩ := Option.map_eq_some_iff.mp hf
    subst h2
    obtain ⟨a, e, h3⟩ := intsW_ok R r h1
    exact cr_sum hc pins s σ H _ us Q I rx ⟨a, ns, by rw [e], h3, q _ H Stp.refl R int_rw⟩
  · cases hf
theorem fc_any (hc : X.calm = true) : CallR X (.builtin "any") (rC X.K anyF) := by
  intro pins s σ H xs us Q I rx ⟨ex, m, S, ws, w, R, rw, hf, q⟩
  unfold anyF at hf
  split at hf
  · obtain ⟨y, rfl, r⟩ := rws1 rw
    obtain ⟨ns, h1, h2⟩ := Option.map_eq_some_iff.mp hf
    subst h2
    obtain ⟨a, e, h3⟩ := blsW_ok R r h1
    exact cr_any hc pins s σ H _ us Q I rx ⟨a, ns, by rw [e], h3, q _ H Stp.refl R bl_rw⟩
  · cases hf
theorem fc_all (hc : X.calm = true) : CallR X (.builtin "all") (rC X.K allF) := by
  intro pins s σ H xs us Q I rx ⟨ex, m, S, ws, w, R, rw, hf, q⟩
  unfold allF at hf
  split at hf
  · obtain ⟨y, rfl, r⟩ := rws1 rw
    obtain ⟨ns, h1, h2⟩ := Option.map_eq_some_iff.mp hf
    subst h2
    obtain ⟨a, e, h3⟩ := blsW_ok R r h1
    exact cr_all hc pins s σ H _ us Q I rx ⟨a, ns, by rw [e], h3, q _ H Stp.refl R bl_rw⟩
  · cases hf
theorem fc_list : CallR X (.type "list") (rCL X.K lsF) := by
  intro pins s σ H xs us Q I rx ⟨ex, m, S, ws, w, R, rw, hf, q⟩
  unfold lsF at hf
  split at hf
  · obtain ⟨y, rfl, r⟩ := rws1 rw
    obtain ⟨a, vs, e, h1, h2⟩ := seqW_ok R r hf
    exact call_list_of pins s σ H _ us Q I rx ⟨a, vs, by rw [e], h1, fun l hl => q l vs hl h2⟩
  · cases hf
theorem fc_tuple {t : Bool} : CallR X (.type "tuple") (rC X.K (tupF t)) := by
  intro pins s σ H xs us Q I rx ⟨ex, m, S, ws, w, R, rw, hf, q⟩
  unfold tupF at hf
  split at hf
  · obtain ⟨y, rfl, r⟩ := rws1 rw
    split at hf
    · rename_i t' ds
      by_cases c : t' = t
      · subst c
        rw [if_pos rfl] at hf
        cases hf
        obtain ⟨a, vs, e, h1, h2⟩ := tupW_ok (w := .v (.tup t' ds)) r rfl
        refine call_tuple_of pins s σ H _ us Q I rx ⟨a, vs, by rw [e], .inr ⟨h1, q _ H Stp.refl R ?_⟩⟩
        rw [← e]; exact r
      · rw [if_neg c] at hf; cases hf
    · obtain ⟨ws', h1, h2⟩ := Option.bind_eq_some_iff.mp hf
      obtain ⟨ds, h3, h4⟩ := Option.map_eq_some_iff.mp h2
      subst h4
      obtain ⟨a, vs, e, h5, h6⟩ := lstW_ok R r h1
      refine call_tuple_of pins s σ H _ us Q I rx ⟨a, vs, by rw [e], .inl ⟨h5, fun l hl => ?_⟩⟩
      obtain ⟨st, R2, r2⟩ := new_tup (t := t) R hl (h6.toDs h3)
      exact q _ _ st R2 r2
  · cases hf
end
end Fy
namespace Fy
open PySem PySem.Spec PyProof.Rows L2

/-- what a def hands back: a value, a new tuple (of cells, too) -/
inductive Ret where
  | one (w : W) | tup (ws : List W)
def RR (K : PySem.W.Frag) (ex m : List Addr) (H : Hp) : Ret → V → Prop
  | .one w, v => RW K ex m H w v
  | .tup ws, v => ∃ p vs, v = .ref p ∧ H p = some (.tup vs) ∧ RWs K ex m H ws vs
inductive Fl where
  | nx | bk | ct | rt (w : Ret)
abbrev XS := Rho → Sto → Option (Fl × Rho × Sto)
def Dn (K : PySem.W.Frag) (ex m : List Addr) (H : Hp) (D : Ends) (σ : L2.St) : Fl → Prop
  | .nx => D.nx σ H
  | .bk => D.bk σ H
  | .ct => D.ct σ H
  | .rt w => ∀ v, RR K ex m H w v → D.rt v H
def tMS (K : PySem.W.Frag) (f : XS) : TS := fun D σ H => ∃ ex ρ m S fl ρ' S', Rel K ex m S H ∧ RE K ex m H ρ σ ∧ f ρ S = some (fl, ρ', S') ∧
  ∀ σ' m' H', Stp m H m' H' → Rel K ex m' S' H' → RE K ex m' H' ρ' σ' → Dn K ex m' H' D σ' fl
theorem PS.imp {X : Cx} {e : Stmt} {t t' : TS} (h : PS X e t') (i : ∀ D σ H, t D σ H → t' D σ H) : PS X e t := ⟨fun pins s σ H D I q => h.run pins s σ H D I (i D σ H q)⟩
theorem PSs.imp {X : Cx} {e : List Stmt} {t t' : TS} (h : PSs X e t') (i : ∀ D σ H, t D σ H → t' D σ H) : PSs X e t := ⟨fun pins s σ H D I q => h.run pins s σ H D I (i D σ H q)⟩
theorem tMS.mono {K : PySem.W.Frag} {f : XS} {D D' : Ends} {σ : L2.St} {H : Hp} (h : tMS K f D σ H) (h1 : ∀ σ H, D.nx σ H → D'.nx σ H) (h2 : ∀ σ H, D.bk σ H → D'.bk σ H) (h3 : ∀ σ H, D.ct σ H → D'.ct σ H) (h4 : ∀ v H, D.rt v H → D'.rt v H) : tMS K f D' σ H := by
  obtain ⟨ex, ρ, m, S, fl, ρ', S', R, E, hf, q⟩ := h
  refine ⟨ex, ρ, m, S, fl, ρ', S', R, E, hf, fun σ' m' H' st R' E' => ?_⟩
  have := q σ' m' H' st R' E'
  cases fl with
  | nx => exact h1 _ _ this
  | bk => exact h2 _ _ this
  | ct => exact h3 _ _ this
  | rt w => exact fun v r => h4 v _ (this v r)

/-! ## small statements -/
def xskip : XS := fun ρ S => some (.nx, ρ, S)
def xbrk : XS := fun ρ S => some (.bk, ρ, S)
def xcnt : XS := fun ρ S => some (.ct, ρ, S)
def xseq (f g : XS) : XS := fun ρ S => (f ρ S).bind fun p => match p.1 with
  | .nx => g p.2.1 p.2.2
  | _ => some p
def xret (e : XE) : XS := fun ρ S => (e ρ S).map fun p => (.rt (.one p.1), ρ, p.2)
def xretT (a : XA) : XS := fun ρ S => (a ρ S).bind fun p => if p.1.length ≤ LIM then some (.rt (.tup p.1), ρ, p.2) else none
def xretN : XS := fun ρ S => some (.rt (.one (.v .non)), ρ, S)
def xexpr (e : XE) : XS := fun ρ S => (e ρ S).map fun p => (.nx, ρ, p.2)
def xifS (t : XT) (f g : XS) : XS := fun ρ S => (t ρ S).bind fun p => if p.1 = true then f ρ p.2 else g ρ p.2
def xasg (i : Nat) (e : XE) : XS := fun ρ S => (e ρ S).map fun p => (.nx, ρ.set i (some p.1), p.2)
section
variable {X : Cx} {st : Stmt} {rest a b : List Stmt} {e c : Expr} {pos : Pos}
theorem xss_nil : PSs X [] (tMS X.K xskip) := PSs.imp pss_nil fun D σ H ⟨ex, ρ, m, S, fl, ρ', S', R, E, hf, q⟩ => by
  have hf : some (Fl.nx, ρ, S) = some (fl, ρ', S') := hf
  cases hf
  exact q σ m H Stp.refl R E
theorem xs_pass : PS X (.Pass pos) (tMS X.K xskip) := PS.imp ps_pass fun D σ H ⟨ex, ρ, m, S, fl, ρ', S', R, E, hf, q⟩ => by
  have hf : some (Fl.nx, ρ, S) = some (fl, ρ', S') := hf
  cases hf
  exact q σ m H Stp.refl R E
theorem xs_brk : PS X (.Break pos) (tMS X.K xbrk) := PS.imp ps_break fun D σ H ⟨ex, ρ, m, S, fl, ρ', S', R, E, hf, q⟩ => by
  have hf : some (Fl.bk, ρ, S) = some (fl, ρ', S') := hf
  cases hf
  exact q σ m H Stp.refl R E
theorem xs_cnt : PS X (.Continue pos) (tMS X.K xcnt) := PS.imp ps_continue fun D σ H ⟨ex, ρ, m, S, fl, ρ', S', R, E, hf, q⟩ => by
  have hf : some (Fl.ct, ρ, S) = some (fl, ρ', S') := hf
  cases hf
  exact q σ m H Stp.refl R E
theorem xss_cons {f g : XS} (h1 : PS X st (tMS X.K f)) (h2 : PSs X rest (tMS X.K g)) : PSs X (st :: rest) (tMS X.K (xseq f g)) := by
  refine PSs.imp (pss_cons h1 h2) fun D σ H ⟨ex, ρ, m, S, fl, ρ', S', R, E, hf, q⟩ => ?_
  obtain ⟨⟨fl1, ρ1, S1⟩, h3, h4⟩ := Option.bind_eq_some_iff.mp hf
  refine ⟨ex, ρ, m, S, fl1, ρ1, S1, R, E, h3, fun σ1 m1 H1 st1 R1 E1 => ?_⟩
  cases fl1 with
  | nx => exact ⟨ex, ρ1, m1, S1, fl, ρ', S', R1, E1, h4, fun σ2 m2 H2 st2 R2 E2 => q σ2 m2 H2 (st1.trans st2) R2 E2⟩
  | bk => cases h4; exact q σ1 m1 H1 st1 R1 E1
  | ct => cases h4; exact q σ1 m1 H1 st1 R1 E1
  | rt w => cases h4; exact q σ1 m1 H1 st1 R1 E1
theorem xss_one {f : XS} (h1 : PS X st (tMS X.K f)) : PSs X [st] (tMS X.K f) := pss_one h1
theorem xs_ret {f : XE} (h : PE X e (tM X.K f)) : PS X (.Return (some e) pos) (tMS X.K (xret f)) := by
  refine PS.imp (ps_ret h) fun D σ H ⟨ex, ρ, m, S, fl, ρ', S', R, E, hf, q⟩ => ?_
  obtain ⟨⟨w1, S1⟩, h3, h4⟩ := Option.map_eq_some_iff.mp hf
  cases h4
  exact ⟨ex, ρ, m, S, w1, S1, R, E, h3, fun v m' H' st R' r => q σ m' H' st R' (E.mono R.kd st) v r⟩
theorem xs_retT {es : List Expr} {k : Nat} {p : Pos} {fa : XA} (h : PA X es (tMA X.K fa)) : PS X (.Return (some (.Tuple es k p)) pos) (tMS X.K (xretT fa)) := by
  refine PS.imp (ps_ret (pe_tup h)) fun D σ H ⟨ex, ρ, m, S, fl, ρ', S', R, E, hf, q⟩ => ?_
  obtain ⟨⟨ws, S1⟩, h3, h4⟩ := Option.bind_eq_some_iff.mp hf
  by_cases c : ws.length ≤ LIM
  · rw [if_pos c] at h4
    cases h4
    refine ⟨ex, ρ, m, S, ws, S1, R, E, h3, fun vs m' H' st R' r => ⟨by rw [← r.length]; exact Nat.le_trans c lim_le, fun p hp => ?_⟩⟩
    obtain ⟨R2, st2⟩ := R'.laid (o := .tup vs) hp
    exact q σ m' _ (st.trans st2) R2 ((E.mono R.kd st).mono R'.kd st2) (.ref p) ⟨p, vs, rfl, upd_same, r.mono R'.kd st2⟩
  · rw [if_neg c] at h4; cases h4
theorem xs_retN : PS X (.Return none pos) (tMS X.K xretN) := by
  refine PS.imp ps_retN fun D σ H ⟨ex, ρ, m, S, fl, ρ', S', R, E, hf, q⟩ => ?_
  have hf : some (Fl.rt (.one (.v .non)), ρ, S) = some (fl, ρ', S') := hf
  cases hf
  exact q σ m H Stp.refl R E .non (non_rw (K := X.K) (ex := ex) (m := m) (H := H))
theorem xs_expr {f : XE} (h : PE X e (tM X.K f)) (hs : swapsWith e none pos.line X.env = pure false := by rfl) : PS X (.Expr e pos) (tMS X.K (xexpr f)) := by
  refine PS.imp (ps_expr h hs) fun D σ H ⟨ex, ρ, m, S, fl, ρ', S', R, E, hf, q⟩ => ?_
  obtain ⟨⟨w1, S1⟩, h3, h4⟩ := Option.map_eq_some_iff.mp hf
  cases h4
  exact ⟨ex, ρ, m, S, w1, S1, R, E, h3, fun v m' H' st R' r => q σ m' H' st R' (E.mono R.kd st)⟩
theorem xs_if {t : XT} {f g : XS} (hc : PT X c (tMT X.K t)) (ha : PSs X a (tMS X.K f)) (hb : PSs X b (tMS X.K g)) : PS X (.If c a b pos) (tMS X.K (xifS t f g)) := by
  refine PS.imp (ps_if hc ha hb) fun D σ H ⟨ex, ρ, m, S, fl, ρ', S', R, E, hf, q⟩ => ?_
  obtain ⟨⟨b1, S1⟩, h3, h4⟩ := Option.bind_eq_some_iff.mp hf
  refine ⟨ex, ρ, m, S, b1, S1, R, E, h3, fun m' H' st R' => ?_⟩
  cases b1 with
  | true => exact ⟨ex, ρ, m', S1, fl, ρ', S', R', E.mono R.kd st, h4, fun σ2 m2 H2 st2 R2 E2 => q σ2 m2 H2 (st.trans st2) R2 E2⟩
  | false => exact ⟨ex, ρ, m', S1, fl, ρ', S', R', E.mono R.kd st, h4, fun σ2 m2 H2 st2 R2 E2 => q σ2 m2 H2 (st.trans st2) R2 E2⟩

/-! ## targets -/
end
abbrev XG := W → Rho → Sto → Option (Rho × Sto)
abbrev XGs := List W → Rho → Sto → Option (Rho × Sto)
def Sames (is : List Nat) (σ' σ : L2.St) : Prop := σ'.length = σ.length ∧ ∀ j, j ∉ is → σ'[j]? = σ[j]?
def tMG (K : PySem.W.Frag) (is : List Nat) (g : XG) : TG := fun v σ H Q => ∃ ex ρ m S w ρ' S', Rel K ex m S H ∧ RE K ex m H ρ σ ∧ RW K ex m H w v ∧ g w ρ S = some (ρ', S') ∧
  ∀ σ' m' H', Stp m H m' H' → Rel K ex m' S' H' → RE K ex m' H' ρ' σ' → Sames is σ' σ → Q σ' H'
def tMGs (K : PySem.W.Frag) (is : List Nat) (g : XGs) : TGs := fun vs σ H Q => ∃ ex ρ m S ws ρ' S', Rel K ex m S H ∧ RE K ex m H ρ σ ∧ RWs K ex m H ws vs ∧ g ws ρ S = some (ρ', S') ∧
  ∀ σ' m' H', Stp m H m' H' → Rel K ex m' S' H' → RE K ex m' H' ρ' σ' → Sames is σ' σ → Q σ' H'
theorem PG.imp {X : Cx} {e : Expr} {t t' : TG} (h : PG X e t') (i : ∀ v σ H Q, t v σ H Q → t' v σ H Q) : PG X e t := ⟨fun pins s σ H v u Q I r q => h.run pins s σ H v u Q I r (i v σ H Q q)⟩
theorem PGs.imp {X : Cx} {e : List Expr} {t t' : TGs} (h : PGs X e t') (i : ∀ v σ H Q, t v σ H Q → t' v σ H Q) : PGs X e t := ⟨fun pins s σ H v u Q I r q => h.run pins s σ H v u Q I r (i v σ H Q q)⟩
def xgname (i : Nat) : XG := fun w ρ S => some (ρ.set i (some w), S)
def xgnil : XGs := fun ws ρ S => match ws with
  | [] => some (ρ, S)
  | _ => none
def xgcons (g : XG) (r : XGs) : XGs := fun ws ρ S => match ws with
  | [] => none
  | w :: ws => (g w ρ S).bind fun p => r ws p.1 p.2
def xgtup (n : Nat) (g : XGs) : XG := fun w ρ S => (tupW w).bind fun ws => if ws.length = n then g ws ρ S else none
section
variable {X : Cx} {st : Stmt} {rest a b : List Stmt} {e c o : Expr} {pos : Pos}
theorem xg_name {i : Nat} {x : Str} (hN : X.N.Nodup) (hi : X.N[i]? = some x) (hx : Loc X.env.scope x) (hf : X.fn x = true ∨ X.env.scope.names.lookup x = some .local := by first | exact .inl rfl | exact .inr rfl | assumption) : PG X (.Name x pos) (tMG X.K [i] (xgname i)) := by
  refine PG.imp (pg_name hN hi hx hf) fun v σ H Q ⟨ex, ρ, m, S, w, ρ', S', R, E, r, hg, q⟩ => ?_
  have hg : some (ρ.set i (some w), S) = some (ρ', S') := hg
  cases hg
  refine q _ m H Stp.refl R (E.set i r) ⟨by simp, fun j hj => ?_⟩
  have : j ≠ i := by simpa using hj
  rw [List.getElem?_set_ne (Ne.symm this)]
theorem xgs_nil : PGs X [] (tMGs X.K [] xgnil) := by
  refine PGs.imp pgs_nil fun v σ H Q ⟨ex, ρ, m, S, w, ρ', S', R, E, r, hg, q⟩ => ?_
  cases r with
  | nil =>
    have hg : some (ρ, S) = some (ρ', S') := hg
    cases hg
    exact ⟨rfl, q σ m H Stp.refl R E ⟨rfl, fun _ _ => rfl⟩⟩
  | cons r t => cases hg
theorem xgs_cons {es : List Expr} {is js : List Nat} {g : XG} {r : XGs} (h1 : PG X e (tMG X.K is g)) (h2 : PGs X es (tMGs X.K js r))
    (hs : (assignEach (e :: es) X.env).map (·.2) = assign e X.env :: (assignEach es X.env).map (·.2) := by rfl) : PGs X (e :: es) (tMGs X.K (is ++ js) (xgcons g r)) := by
  refine PGs.imp (pgs_cons h1 h2 hs) fun v σ H Q ⟨ex, ρ, m, S, w, ρ', S', R, E, rw, hg, q⟩ => ?_
  cases rw with
  | nil => cases hg
  | @cons w v ws vs r0 t =>
    obtain ⟨⟨ρ1, S1⟩, h3, h4⟩ := Option.bind_eq_some_iff.mp (show ((g w ρ S).bind fun p => r ws p.1 p.2) = some (ρ', S') from hg)
    refine ⟨v, vs, rfl, ex, ρ, m, S, w, ρ1, S1, R, E, r0, h3, fun σ1 m1 H1 st1 R1 E1 s1 => ?_⟩
    refine ⟨ex, ρ1, m1, S1, ws, ρ', S', R1, E1, RWs.mono R.kd st1 t, h4, fun σ2 m2 H2 st2 R2 E2 s2 => ?_⟩
    refine q σ2 m2 H2 (st1.trans st2) R2 E2 ⟨s2.1.trans s1.1, fun j hj => ?_⟩
    simp only [List.mem_append, not_or] at hj
    rw [s2.2 j hj.2, s1.2 j hj.1]
theorem xg_tup {es : List Expr} {k : Nat} {is : List Nat} {g : XGs} {n : Nat} (hc : X.calm = true) (h : PGs X es (tMGs X.K is g))
    (hn : (assignEach es X.env).length = n := by rfl) (hst : (assignEach es X.env).findIdx? (·.1) = none := by rfl) : PG X (.Tuple es k pos) (tMG X.K is (xgtup n g)) := by
  refine PG.imp (pg_tup hc h hn hst) fun v σ H Q ⟨ex, ρ, m, S, w, ρ', S', R, E, r, hg, q⟩ => ?_
  obtain ⟨ws, h1, h2⟩ := Option.bind_eq_some_iff.mp hg
  by_cases c : ws.length = n
  · rw [if_pos c] at h2
    obtain ⟨a, vs, e, h3, h4⟩ := tupW_ok r h1
    exact ⟨a, vs, e, h3, by rw [← h4.length]; exact c, ex, ρ, m, S, ws, ρ', S', R, E, h4, h2, q⟩
  · rw [if_neg c] at h2; cases h2
/-- o[i] = v -/
def setF (S : Sto) (o i v : W) : Option Sto := match o with
  | .ref k => match S[k]? with
    | some (.lst ws) => (intOf i).bind fun j => (ixN ws.length j).map fun n => S.set k (.lst (ws.set n v))
    | some (.dK kvs) => if kvs.length < LIM then (keyK i).map fun key => S.set k (.dK (dput kvs key v)) else none
    | some (.dT kvs) => if kvs.length < LIM then (keyT i).map fun key => S.set k (.dT (dput kvs key v)) else none
    | none => none
  | _ => none
def rSet (K : PySem.W.Frag) : TSet := fun o i v H Q => ∃ ex m S wo wi wv S', Rel K ex m S H ∧ RW K ex m H wo o ∧ RW K ex m H wi i ∧ RW K ex m H wv v ∧ setF S wo wi wv = some S' ∧
  ∀ H', Stp m H m H' → Rel K ex m S' H' → Q H'
theorem ps_dict (hu : X.A.units + 1 < cLine) : PSet X (fun o i v H Q => ∃ a H', o = .ref a ∧ DPut H a i v H' ∧ Q H') := by
  intro pins s σ H o i v ov iv u Q I ro ri rv ⟨a, H', e, g, q⟩
  subst e
  obtain rfl : ov = Value.ref a := ro
  exact d_setItem hu I g ri rv fun s4 I4 => ⟨H', I4, q⟩
theorem fs_set (hu : X.A.units + 1 < cLine) : PSet X (rSet X.K) := by
  intro pins s σ H o i v ov iv u Q I ro ri rv ⟨ex, m, S, wo, wi, wv, S', R, r1, r2, r3, hf, q⟩
  unfold setF at hf
  split at hf
  · rename_i k
    obtain ⟨a, e, hk⟩ := r1
    split at hf
    · rename_i ws hc
      obtain ⟨j, h1, h2⟩ := Option.bind_eq_some_iff.mp hf
      obtain ⟨n, h3, h4⟩ := Option.map_eq_some_iff.mp h2
      subst h4
      rw [intOf_eq h1] at r2
      obtain ⟨vs, h5, h6⟩ := R.cells k _ a hc hk
      obtain ⟨R2, st⟩ := R.write (c := .lst (ws.set n wv)) (o := .lst (vs.set n v)) hk trivial fun st => ⟨_, upd_same, (h6.mono R.kd st).set (RW.mono R.kd st _ _ r3) n⟩
      exact set_list pins s σ H o i v ov iv u Q I ro ri rv ⟨a, vs, j, n, e, rw_int r2, h5, by rw [← h6.length]; exact h3, q _ st R2⟩
    · rename_i kvs hc
      by_cases c : kvs.length < LIM
      · rw [if_pos c] at hf
        obtain ⟨key, h1, h2⟩ := Option.map_eq_some_iff.mp hf
        subst h2
        obtain ⟨xs, h5, h6⟩ := R.cells k _ a hc hk
        have hl : kvs.length = xs.length := Paired.length h6
        obtain ⟨R2, st⟩ := R.write (c := .dK (dput kvs key wv)) (o := .dK (putK xs key v)) hk trivial fun st => ⟨_, upd_same, dput_rel (G := RW X.K ex m _) key (RW.mono R.kd st _ _ r3) (Paired.mapP h6 fun a b z => ⟨z.1, RW.mono R.kd st _ _ z.2⟩)⟩
        refine ps_dict hu pins s σ H o i v ov iv u Q I ro ri rv ⟨a, _, e, ?_, q _ st R2⟩
        rw [keyK_ok r2 h1]
        exact DPut.k h5 (by rw [← hl]; exact Nat.lt_trans c lim_lt)
      · rw [if_neg c] at hf; cases hf
    · rename_i kvs hc
      by_cases c : kvs.length < LIM
      · rw [if_pos c] at hf
        obtain ⟨key, h1, h2⟩ := Option.map_eq_some_iff.mp hf
        subst h2
        obtain ⟨xs, h5, h6⟩ := R.cells k _ a hc hk
        have hl : kvs.length = xs.length := Paired.length h6
        obtain ⟨b, eb, hb⟩ := keyT_ok r2 h1
        obtain ⟨R2, st⟩ := R.write (c := .dT (dput kvs key wv)) (o := .dT (putK xs key v)) hk trivial fun st => ⟨_, upd_same, dput_rel (G := RW X.K ex m _) key (RW.mono R.kd st _ _ r3) (Paired.mapP h6 fun a b z => ⟨z.1, RW.mono R.kd st _ _ z.2⟩)⟩
        refine ps_dict hu pins s σ H o i v ov iv u Q I ro ri rv ⟨a, _, e, ?_, q _ st R2⟩
        rw [eb]
        exact DPut.t h5 hb (by rw [← hl]; exact Nat.lt_trans c lim_lt)
      · rw [if_neg c] at hf; cases hf
    · cases hf
  · cases hf
def xgsub (o i : XE) : XG := fun w ρ S => (o ρ S).bind fun p => (i ρ p.2).bind fun q => (setF q.2 p.1 q.1 w).map fun S' => (ρ, S')
theorem xg_sub {i : Expr} {fo fi : XE} (hu : X.A.units + 1 < cLine) (ho : PE X o (tM X.K fo)) (hi : PE X i (tM X.K fi))
    (ha : ∀ v, assign (.Subscript o i pos) X.env v = (do
      let ov ← holding [v] (eval o X.env)
      let iv ← holding [v, ov] (eval i X.env)
      standAt pos
      holding [v, ov, iv] (setItem ov iv v)
      release [v, ov, iv] []) := by intro _; rfl) : PG X (.Subscript o i pos) (tMG X.K [] (xgsub fo fi)) := by
  refine PG.imp (pg_sub ho hi (fs_set hu) ha) fun v σ H Q ⟨ex, ρ, m, S, w, ρ', S', R, E, r, hg, q⟩ => ?_
  obtain ⟨⟨w1, S1⟩, h1, h2⟩ := Option.bind_eq_some_iff.mp hg
  obtain ⟨⟨w2, S2⟩, h3, h4⟩ := Option.bind_eq_some_iff.mp h2
  obtain ⟨S3, h5, h6⟩ := Option.map_eq_some_iff.mp h4
  cases h6
  refine ⟨ex, ρ, m, S, w1, S1, R, E, h1, fun v1 m1 H1 st1 R1 r1 => ?_⟩
  refine ⟨ex, ρ, m1, S1, w2, S2, R1, E.mono R.kd st1, h3, fun v2 m2 H2 st2 R2 r2 => ?_⟩
  refine ⟨ex, m2, S2, w1, w2, w, _, R2, RW.mono R1.kd st2 _ _ r1, r2, RW.mono R.kd (st1.trans st2) _ _ r, h5, fun H3 st3 R3 => ?_⟩
  exact q σ m2 H3 ((st1.trans st2).trans st3) R3 (E.mono R.kd ((st1.trans st2).trans st3)) ⟨rfl, fun _ _ => rfl⟩
/-- target = value -/
def xasgG (g : XG) (e : XE) : XS := fun ρ S => (e ρ S).bind fun p => (g p.1 ρ p.2).map fun q => (.nx, q.1, q.2)
theorem xs_asg {tg : Expr} {is : List Nat} {g : XG} {f : XE} (he : PE X e (tM X.K f)) (hg : PG X tg (tMG X.K is g)) (hs : swapsWithSole [tg] e pos.line X.env = pure false := by rfl) (hw : swappedStores [tg] e X.env = pure none := by rfl)
    (h1 : (assignEach [tg] X.env).map (·.2) = [assign tg X.env] := by rfl) : PS X (.Assign [tg] e pos) (tMS X.K (xasgG g f)) := by
  refine PS.imp (ps_asg he hg hs hw h1) fun D σ H ⟨ex, ρ, m, S, fl, ρ', S', R, E, hf, q⟩ => ?_
  obtain ⟨⟨w1, S1⟩, h3, h4⟩ := Option.bind_eq_some_iff.mp hf
  obtain ⟨⟨ρ2, S2⟩, h5, h6⟩ := Option.map_eq_some_iff.mp h4
  cases h6
  refine ⟨ex, ρ, m, S, w1, S1, R, E, h3, fun v m1 H1 st1 R1 r1 => ?_⟩
  exact ⟨ex, ρ, m1, S1, w1, ρ2, S2, R1, E.mono R.kd st1, r1, h5, fun σ2 m2 H2 st2 R2 E2 _ => q σ2 m2 H2 (st1.trans st2) R2 E2⟩
theorem xs_set {i : Nat} {x : Str} {f : XE} {pos' : Pos} (hN : X.N.Nodup) (hi : X.N[i]? = some x) (hx : Loc X.env.scope x) (he : PE X e (tM X.K f)) (hs : swapsWith e (some (.Name x pos')) pos.line X.env = pure false := by rfl) (hf : X.fn x = true ∨ X.env.scope.names.lookup x = some .local := by first | exact .inl rfl | exact .inr rfl | assumption) :
    PS X (.Assign [.Name x pos'] e pos) (tMS X.K (xasg i f)) := by
  refine PS.imp (ps_set hN hi hx he hs hf) fun D σ H ⟨ex, ρ, m, S, fl, ρ', S', R, E, hf, q⟩ => ?_
  obtain ⟨⟨w1, S1⟩, h3, h4⟩ := Option.map_eq_some_iff.mp hf
  cases h4
  exact ⟨ex, ρ, m, S, w1, S1, R, E, h3, fun v m1 H1 st1 R1 r1 => q _ m1 H1 st1 R1 ((E.mono R.kd st1).set i r1)⟩
/-- a, b = e1, e2 (local names) -/
def parF (i j : Nat) (ρ : Rho) : List W → Option Rho
  | [v, w] => some ((ρ.set i (some v)).set j (some w))
  | _ => none
def xpar (i j : Nat) (a : XA) : XS := fun ρ S => (a ρ S).bind fun p => (parF i j ρ p.1).map fun r => (.nx, r, p.2)
theorem xs_par {i j : Nat} {x y : Str} {a b : Expr} {fa : XA} {px py pt : Pos} {kt k2 pt2} (hc : X.calm = true) (hN : X.N.Nodup) (hi : X.N[i]? = some x) (hj : X.N[j]? = some y) (hij : i ≠ j)
    (hx : X.env.scope.names.lookup x = some .local) (hy : X.env.scope.names.lookup y = some .local) (ha : PA X [a, b] (tMA X.K fa))
    (hw : swappedStores [.Tuple [.Name x px, .Name y py] kt pt] (.Tuple [a, b] k2 pt2) X.env = pure (some [x, y]) := by rfl)
    (hs : swapsWithSole [.Tuple [.Name x px, .Name y py] kt pt] (.Tuple [a, b] k2 pt2) pos.line X.env = pure false := by rfl) :
    PS X (.Assign [.Tuple [.Name x px, .Name y py] kt pt] (.Tuple [a, b] k2 pt2) pos) (tMS X.K (xpar i j fa)) := by
  refine PS.imp (ps_par hc hN hi hj hij hx hy ha hw hs) fun D σ H ⟨ex, ρ, m, S, fl, ρ', S', R, E, hf, q⟩ => ?_
  obtain ⟨⟨ws, S1⟩, h3, h4⟩ := Option.bind_eq_some_iff.mp hf
  refine ⟨ex, ρ, m, S, ws, S1, R, E, h3, fun vs m1 H1 st1 R1 r1 => ?_⟩
  obtain ⟨ρ2, h5, h6⟩ := Option.map_eq_some_iff.mp h4
  cases h6
  have h5 : parF i j ρ ws = some ρ' := h5
  unfold parF at h5
  split at h5
  · cases h5
    obtain ⟨v, w, rfl, r2, r3⟩ := rws2 r1
    exact ⟨v, w, rfl, q _ m1 H1 st1 R1 (((E.mono R.kd st1).set i r2).set j r3)⟩
  · cases h5
/-- the same where the tuple is made and taken apart (cells among the names, any number) -/
def xparG (n : Nat) (g : XGs) (a : XA) : XS := fun ρ S => (a ρ S).bind fun p => if p.1.length = n then (g p.1 ρ p.2).map fun q => (.nx, q.1, q.2) else none
theorem xs_parG {es ts : List Expr} {k1 k2 : Nat} {p1 p2 : Pos} {is : List Nat} {g : XGs} {fa : XA} {n : Nat} (hc : X.calm = true) (ha : PA X es (tMA X.K fa)) (hg : PGs X ts (tMGs X.K is g)) (hz : n ≤ LIM := by decide)
    (hn : (assignEach ts X.env).length = n := by rfl) (hst : (assignEach ts X.env).findIdx? (·.1) = none := by rfl)
    (hs : swapsWithSole [.Tuple ts k1 p1] (.Tuple es k2 p2) pos.line X.env = pure false := by rfl) (hw : swappedStores [.Tuple ts k1 p1] (.Tuple es k2 p2) X.env = pure none := by rfl)
    (h1 : (assignEach [.Tuple ts k1 p1] X.env).map (·.2) = [assign (.Tuple ts k1 p1) X.env] := by rfl) : PS X (.Assign [.Tuple ts k1 p1] (.Tuple es k2 p2) pos) (tMS X.K (xparG n g fa)) := by
  refine PS.imp (ps_asg (pe_tup ha) (pg_tup hc hg hn hst) hs hw h1) fun D σ H ⟨ex, ρ, m, S, fl, ρ', S', R, E, hf, q⟩ => ?_
  obtain ⟨⟨ws, S1⟩, h3, h4⟩ := Option.bind_eq_some_iff.mp hf
  by_cases c : ws.length = n
  · have h4 : (if ws.length = n then (g ws ρ S1).map fun q => (Fl.nx, q.1, q.2) else none) = some (fl, ρ', S') := h4
    rw [if_pos c] at h4
    obtain ⟨⟨ρ2, S2⟩, h5, h6⟩ := Option.map_eq_some_iff.mp h4
    cases h6
    refine ⟨ex, ρ, m, S, ws, S1, R, E, h3, fun vs m1 H1 st1 R1 r1 => ⟨?_, fun p hp => ?_⟩⟩
    · rw [← r1.length, c]; exact Nat.le_trans hz lim_le
    · obtain ⟨R2, st2⟩ := R1.laid (o := .tup vs) hp
      refine ⟨p, vs, rfl, SqT.of upd_same, by rw [← r1.length]; exact c, ?_⟩
      exact ⟨ex, ρ, m1, S1, ws, ρ2, S2, R2, E.mono R.kd (st1.trans st2), r1.mono R1.kd st2, h5, fun σ2 m2 H2 st3 R3 E3 _ => q σ2 m2 H2 ((st1.trans st2).trans st3) R3 E3⟩
  · have h4 : (if ws.length = n then (g ws ρ S1).map fun q => (Fl.nx, q.1, q.2) else none) = some (fl, ρ', S') := h4
    rw [if_neg c] at h4; cases h4
/-- name += e, -= e (ints) -/
def xaug (g : Int → Int → Int) (i : Nat) (e : XE) : XS := fun ρ S => (ρ[i]?.join).bind fun x => (e ρ S).bind fun p => (intOf x).bind fun a => (intOf p.1).map fun b => (.nx, ρ.set i (some (.v (.int (g a b)))), p.2)
theorem xs_aug {i : Nat} {x : Str} {op : Operator} {g : Int → Int → Int} {f : XE} {pos' : Pos} (ho : PIp X op (ipI g)) (hN : X.N.Nodup) (hi : X.N[i]? = some x) (hx : Loc X.env.scope x) (he : PE X e (tM X.K f)) (hf : X.fn x = true ∨ X.env.scope.names.lookup x = some .local := by first | exact .inl rfl | exact .inr rfl | assumption) :
    PS X (.AugAssign (.Name x pos') op e pos) (tMS X.K (xaug g i f)) := by
  refine PS.imp (ps_aug hN hi hx he ho hf) fun D σ H ⟨ex, ρ, m, S, fl, ρ', S', R, E, hf, q⟩ => ?_
  obtain ⟨x, h1, h2⟩ := Option.bind_eq_some_iff.mp hf
  obtain ⟨⟨w1, S1⟩, h3, h4⟩ := Option.bind_eq_some_iff.mp h2
  obtain ⟨a, h5, h6⟩ := Option.bind_eq_some_iff.mp h4
  obtain ⟨b, h7, h8⟩ := Option.map_eq_some_iff.mp h6
  cases h8
  have hx : ρ[i]? = some (some x) := by
    cases hh : ρ[i]? with
    | none => rw [hh] at h1; cases h1
    | some o => rw [hh] at h1; cases o with
      | none => cases h1
      | some y => cases h1; rfl
  obtain ⟨v, e1, r⟩ := E.2 i x hx
  rw [intOf_eq h5] at r
  refine ⟨v, e1, ex, ρ, m, S, w1, S1, R, E, h3, fun v2 m1 H1 st1 R1 r1 => ?_⟩
  rw [intOf_eq (w := w1) h7] at r1
  exact ⟨a, b, rw_int r, rw_int r1, q _ m1 H1 st1 R1 ((E.mono R.kd st1).set i int_rw)⟩
end
end Fy
namespace Fy
open PySem PySem.Spec PyProof.Rows L2

/-! ## while -/
abbrev Out := Fl × Rho × Sto
def whileN (t : XT) (b : XS) : Nat → Rho → Sto → Option Out
  | 0, _, _ => none
  | n + 1, ρ, S => (t ρ S).bind fun p => if p.1 = true then (b ρ p.2).bind fun q => match q.1 with
      | .nx => whileN t b n q.2.1 q.2.2
      | .ct => whileN t b n q.2.1 q.2.2
      | .bk => some (.nx, q.2)
      | .rt w => some (.rt w, q.2)
    else some (.nx, ρ, p.2)
theorem whileN_succ {t : XT} {b : XS} : ∀ {n : Nat} {ρ : Rho} {S : Sto} {r : Out}, whileN t b n ρ S = some r → whileN t b (n + 1) ρ S = some r
  | 0, _, _, _, h => by cases h
  | n + 1, ρ, S, r, h => by
    rw [whileN] at h ⊢
    obtain ⟨p, h1, h2⟩ := Option.bind_eq_some_iff.mp h
    refine Option.bind_eq_some_iff.mpr ⟨p, h1, ?_⟩
    by_cases c : p.1 = true
    · rw [if_pos c] at h2 ⊢
      obtain ⟨q, h3, h4⟩ := Option.bind_eq_some_iff.mp h2
      refine Option.bind_eq_some_iff.mpr ⟨q, h3, ?_⟩
      obtain ⟨fl, ρ1, S1⟩ := q
      cases fl with
      | nx => exact whileN_succ h4
      | ct => exact whileN_succ h4
      | bk => exact h4
      | rt w => exact h4
    · rw [if_neg c] at h2 ⊢; exact h2
theorem whileN_le {t : XT} {b : XS} {n k : Nat} {ρ : Rho} {S : Sto} {r : Out} (h : whileN t b n ρ S = some r) (hk : n ≤ k) : whileN t b k ρ S = some r := by
  induction hk with
  | refl => exact h
  | step _ ih => exact whileN_succ ih
open Classical in
noncomputable def xwhile (t : XT) (b : XS) : XS := fun ρ S => if h : ∃ r, ∃ n, whileN t b n ρ S = some r then some (choose h) else none
theorem xwhile_of {t : XT} {b : XS} {n : Nat} {ρ : Rho} {S : Sto} {r : Out} (h : whileN t b n ρ S = some r) : xwhile t b ρ S = some r := by
  unfold xwhile
  have hx : ∃ r, ∃ n, whileN t b n ρ S = some r := ⟨r, n, h⟩
  rw [dif_pos hx]
  obtain ⟨k, hk⟩ := Classical.choose_spec hx
  have h1 := whileN_le h (Nat.le_max_left n k)
  have h2 := whileN_le hk (Nat.le_max_right n k)
  rw [h1] at h2
  exact h2.symm
theorem xwhile_ex {t : XT} {b : XS} {ρ : Rho} {S : Sto} {r : Out} (h : xwhile t b ρ S = some r) : ∃ n, whileN t b n ρ S = some r := by
  unfold xwhile at h
  split at h
  · rename_i hx
    cases h
    exact Classical.choose_spec hx
  · cases h
/-- the loop's equation -/
theorem xwhile_eq (t : XT) (b : XS) (ρ : Rho) (S : Sto) : xwhile t b ρ S = (t ρ S).bind fun p => if p.1 = true then (b ρ p.2).bind fun q => match q.1 with
      | .nx => xwhile t b q.2.1 q.2.2
      | .ct => xwhile t b q.2.1 q.2.2
      | .bk => some (.nx, q.2)
      | .rt w => some (.rt w, q.2)
    else some (.nx, ρ, p.2) := by
  apply Option.ext
  intro r
  constructor
  · intro h
    obtain ⟨n, hn⟩ := xwhile_ex h
    cases n with
    | zero => cases hn
    | succ n =>
      rw [whileN] at hn
      obtain ⟨p, h1, h2⟩ := Option.bind_eq_some_iff.mp hn
      refine Option.bind_eq_some_iff.mpr ⟨p, h1, ?_⟩
      by_cases c : p.1 = true
      · rw [if_pos c] at h2 ⊢
        obtain ⟨q, h3, h4⟩ := Option.bind_eq_some_iff.mp h2
        refine Option.bind_eq_some_iff.mpr ⟨q, h3, ?_⟩
        obtain ⟨fl, ρ1, S1⟩ := q
        cases fl with
        | nx => exact xwhile_of h4
        | ct => exact xwhile_of h4
        | bk => exact h4
        | rt w => exact h4
      · rw [if_neg c] at h2 ⊢; exact h2
  · intro h
    obtain ⟨p, h1, h2⟩ := Option.bind_eq_some_iff.mp h
    by_cases c : p.1 = true
    · rw [if_pos c] at h2
      obtain ⟨⟨fl, ρ1, S1⟩, h3, h4⟩ := Option.bind_eq_some_iff.mp h2
      have go : ∀ n, (match fl with
          | .nx => whileN t b n ρ1 S1
          | .ct => whileN t b n ρ1 S1
          | .bk => some (.nx, ρ1, S1)
          | .rt w => some (.rt w, ρ1, S1)) = some r → xwhile t b ρ S = some r := fun n hn => by
        refine xwhile_of (n := n + 1) ?_
        rw [whileN, h1]
        show (if p.1 = true then _ else _) = _
        rw [if_pos c, h3]
        exact hn
      cases fl with
      | nx => obtain ⟨n, hn⟩ := xwhile_ex h4; exact go n hn
      | ct => obtain ⟨n, hn⟩ := xwhile_ex h4; exact go n hn
      | bk => exact go 0 h4
      | rt w => exact go 0 h4
    · rw [if_neg c] at h2
      refine xwhile_of (n := 1) ?_
      rw [whileN, h1]
      show (if p.1 = true then _ else _) = _
      rw [if_neg c]
      exact h2
section
variable {X : Cx} {pos : Pos}
theorem xs_while {c : Expr} {body : List Stmt} {t : XT} {f : XS} (hp : PassesOwn (model X.prog X.w) X.A X.env X.xe) (hc : PT X c (tMT X.K t)) (hb : PSs X body (tMS X.K f)) : PS X (.While c body [] pos) (tMS X.K (xwhile t f)) := by
  refine PS.imp (ps_while hp hc hb) fun D σ H ⟨ex, ρ, m, S, fl, ρ', S', R, E, hf, q⟩ => ?_
  obtain ⟨n0, hn0⟩ := xwhile_ex hf
  refine ⟨fun n σ H => ∃ ρ m S, Rel X.K ex m S H ∧ RE X.K ex m H ρ σ ∧ whileN t f n ρ S = some (fl, ρ', S') ∧ ∀ σ' m' H', Stp m H m' H' → Rel X.K ex m' S' H' → RE X.K ex m' H' ρ' σ' → Dn X.K ex m' H' D σ' fl,
    ⟨n0, ρ, m, S, R, E, hn0, q⟩, fun n σ1 H1 ⟨ρ1, m1, S1, R1, E1, hn, q1⟩ => ?_⟩
  cases n with
  | zero => cases hn
  | succ n =>
    rw [whileN] at hn
    obtain ⟨⟨b, S2⟩, h1, h2⟩ := Option.bind_eq_some_iff.mp hn
    refine ⟨ex, ρ1, m1, S1, b, S2, R1, E1, h1, fun m2 H2 st2 R2 => ?_⟩
    cases b with
    | false =>
      rw [if_neg Bool.false_ne_true]
      have h2 : some (Fl.nx, ρ1, S2) = some (fl, ρ', S') := h2
      cases h2
      exact q1 σ1 m2 H2 st2 R2 (E1.mono R1.kd st2)
    | true =>
      rw [if_pos rfl]
      obtain ⟨⟨fl3, ρ3, S3⟩, h3, h4⟩ := Option.bind_eq_some_iff.mp (show ((f ρ1 S2).bind fun q => match q.1 with
        | .nx => whileN t f n q.2.1 q.2.2
        | .ct => whileN t f n q.2.1 q.2.2
        | .bk => some (.nx, q.2)
        | .rt w => some (.rt w, q.2)) = some (fl, ρ', S') from h2)
      refine ⟨fun σ H => ∃ ρ m S, Rel X.K ex m S H ∧ RE X.K ex m H ρ σ ∧ whileN t f n ρ S = some (fl, ρ', S') ∧ ∀ σ' m' H', Stp m H m' H' → Rel X.K ex m' S' H' → RE X.K ex m' H' ρ' σ' → Dn X.K ex m' H' D σ' fl,
        fun σ' H' w => ⟨n, Nat.lt_succ_self n, w⟩, ex, ρ1, m2, S2, fl3, ρ3, S3, R2, E1.mono R1.kd st2, h3, fun σ4 m4 H4 st4 R4 E4 => ?_⟩
      have q4 : ∀ σ' m' H', Stp m4 H4 m' H' → Rel X.K ex m' S' H' → RE X.K ex m' H' ρ' σ' → Dn X.K ex m' H' D σ' fl := fun σ' m' H' st => q1 σ' m' H' ((st2.trans st4).trans st)
      cases fl3 with
      | nx => exact ⟨ρ3, m4, S3, R4, E4, h4, q4⟩
      | ct => exact ⟨ρ3, m4, S3, R4, E4, h4, q4⟩
      | bk => cases h4; exact q4 σ4 m4 H4 Stp.refl R4 E4
      | rt w => cases h4; exact q4 σ4 m4 H4 Stp.refl R4 E4
end

/-! ## what is walked -/
structure Ext (K : PySem.W.Frag) (ex m : List Addr) (H : Hp) (ex' m' : List Addr) (H' : Hp) : Prop where
  rw : ∀ w v, RW K ex m H w v → RW K ex' m' H' w v
  keep : ∀ a o, H a = some o → a ∉ m → H' a = some o
  cell : ∀ (k : Nat) (a : Addr), m[k]? = some a → m'[k]? = some a
theorem Ext.of {K : PySem.W.Frag} {ex m m' : List Addr} {H H' : Hp} (kd : Kd ex m H) (s : Stp m H m' H') : Ext K ex m H ex m' H' :=
  ⟨fun w v r => RW.mono kd s w v r, s.keep, fun k a h => by obtain ⟨e, rfl⟩ := s.pre; rw [List.getElem?_append_left (List.getElem?_eq_some_iff.mp h).1]; exact h⟩
theorem Ext.trans {K : PySem.W.Frag} {ex m ex1 m1 ex2 m2 : List Addr} {H H1 H2 : Hp} (a : Ext K ex m H ex1 m1 H1) (b : Ext K ex1 m1 H1 ex2 m2 H2) (h : ∀ x o, H x = some o → x ∉ m → x ∉ m1) : Ext K ex m H ex2 m2 H2 :=
  ⟨fun w v r => b.rw w v (a.rw w v r), fun x o hx n => b.keep x o (a.keep x o hx n) (h x o hx n), fun k x hx => b.cell k x (a.cell k x hx)⟩
structure Walks (K : PySem.W.Frag) (ex0 m0 : List Addr) (H0 : Hp) (J : It) (ws : List W) (ok : Sto → Prop) : Prop where
  stop : ∀ ex m S H, Rel K ex m S H → Ext K ex0 m0 H0 ex m H → ok S → ∀ i, ws.length ≤ i → J.stop i H
  go : ∀ ex m S H, Rel K ex m S H → Ext K ex0 m0 H0 ex m H → ok S → ∀ (i : Nat) w, ws[i]? = some w → J.go i H ∧ ∀ x H2, J.yld i H x H2 → Stp m H m H2 ∧ Rel K ex m S H2 ∧ RW K ex m H2 w x
abbrev XI := Rho → Sto → Option (List W × (Sto → Prop) × Sto)
def tMI (K : PySem.W.Frag) (f : XI) : TI := fun σ H R => ∃ ex ρ m S ws ok S', Rel K ex m S H ∧ RE K ex m H ρ σ ∧ f ρ S = some (ws, ok, S') ∧
  ∀ J m' H', Stp m H m' H' → Rel K ex m' S' H' → Walks K ex m' H' J ws ok → R J H'
theorem PI.imp {X : Cx} {tg e : Expr} {t t' : TI} (h : PI X tg e t') (i : ∀ σ H Q, t σ H Q → t' σ H Q) : PI X tg e t := ⟨fun pins s σ H R I q => h.run pins s σ H R I (i σ H R q)⟩
def free : Sto → Prop := fun _ => True
section
variable {X : Cx} {tg e : Expr} {pos p : Pos}
/-- a list, a tuple, a text: by what comes -/
def itOf (S : Sto) (w : W) : Option (List W × (Sto → Prop)) := match w with
  | .v (.lst ds) => some (ds.map .v, free)
  | .v (.fl ds) => some (ds.map .v, free)
  | .v (.tup _ ds) => some (ds.map .v, free)
  | .v (.str z) => some (z.cps.toList.map fun c => .v (.str ⟨#[c]⟩), free)
  | .ref k => match S[k]? with
    | some (.lst ws) => some (ws, fun S => S[k]? = some (.lst ws))
    | _ => none
  | _ => none
def xit (a : XE) : XI := fun ρ S => (a ρ S).bind fun p => (itOf p.2 p.1).map fun q => (q.1, q.2, p.2)
theorem walks_list {K : PySem.W.Frag} {ex0 m0 : List Addr} {H0 : Hp} {a : Addr} {ws : List W} {ok : Sto → Prop}
    (h : ∀ ex m S H, Rel K ex m S H → Ext K ex0 m0 H0 ex m H → ok S → ∃ vs, SqL K H a vs ∧ RWs K ex m H ws vs) : Walks K ex0 m0 H0 (Itl K a) ws ok := by
  refine ⟨fun ex m S H R E o i hi => ?_, fun ex m S H R E o i w hw => ?_⟩
  · obtain ⟨vs, h1, h2⟩ := h ex m S H R E o
    exact ⟨vs, h1, by rw [← h2.length]; exact hi⟩
  · obtain ⟨vs, h1, h2⟩ := h ex m S H R E o
    obtain ⟨v, h3, h4⟩ := h2.get hw
    refine ⟨⟨vs, v, h1, h3⟩, fun x H2 y => ?_⟩
    obtain ⟨e, y⟩ := y
    subst e
    have := y vs h1
    rw [h3] at this
    cases this
    exact ⟨Stp.refl, R, h4⟩
theorem walks_tup {K : PySem.W.Frag} {ex0 m0 : List Addr} {H0 : Hp} {a : Addr} {ws : List W} {ok : Sto → Prop}
    (h : ∀ ex m S H, Rel K ex m S H → Ext K ex0 m0 H0 ex m H → ok S → ∃ vs, SqT K H a vs ∧ RWs K ex m H ws vs) : Walks K ex0 m0 H0 (Itt K a) ws ok := by
  refine ⟨fun ex m S H R E o i hi => ?_, fun ex m S H R E o i w hw => ?_⟩
  · obtain ⟨vs, h1, h2⟩ := h ex m S H R E o
    exact ⟨vs, h1, by rw [← h2.length]; exact hi⟩
  · obtain ⟨vs, h1, h2⟩ := h ex m S H R E o
    obtain ⟨v, h3, h4⟩ := h2.get hw
    refine ⟨⟨vs, v, h1, h3⟩, fun x H2 y => ?_⟩
    obtain ⟨e, y⟩ := y
    subst e
    have := y vs h1
    rw [h3] at this
    cases this
    exact ⟨Stp.refl, R, h4⟩
theorem Ext.sqL {K : PySem.W.Frag} {ex0 m0 ex m : List Addr} {H0 H : Hp} (E : Ext K ex0 m0 H0 ex m H) {a : Addr} {vs : List V} (h : SqL K H0 a vs) (n : a ∉ m0) : SqL K H a vs := by
  rcases h with (h | ⟨o, h⟩) | h
  · exact .inl (.inl (E.keep a _ h n))
  · exact .inl (.inr ⟨o, E.keep a _ h n⟩)
  · exact .inr h
theorem Ext.sqT {K : PySem.W.Frag} {ex0 m0 ex m : List Addr} {H0 H : Hp} (kd : Kd ex0 m0 H0) (E : Ext K ex0 m0 H0 ex m H) {a : Addr} {vs : List V} (h : SqT K H0 a vs) : SqT K H a vs := by
  rcases h with (h | ⟨o, h⟩) | h
  · exact .inl (.inl (E.keep a _ h (kd.tup h)))
  · exact .inl (.inr ⟨o, E.keep a _ h (kd.frz h)⟩)
  · exact .inr h
theorem Ext.rws {K : PySem.W.Frag} {ex0 m0 ex m : List Addr} {H0 H : Hp} (E : Ext K ex0 m0 H0 ex m H) {ws : List W} {vs : List V} (h : RWs K ex0 m0 H0 ws vs) : RWs K ex m H ws vs := Paired.mapP h E.rw
theorem walks_lst {K : PySem.W.Frag} {ex m : List Addr} {S : Sto} {H : Hp} {ds : List D} {v : V} (R : Rel K ex m S H) (r : RW K ex m H (.v (.lst ds)) v) :
    ∃ a, v = .ref a ∧ (∃ xs, SqL K H a xs ∧ RWs K ex m H (ds.map W.v) xs) ∧ Walks K ex m H (Itl K a) (ds.map W.v) free := by
  have r : RD K (ex ++ m) H (.lst ds) v := r
  rw [RD] at r
  obtain ⟨a, vs, rfl, h1, h2, h3⟩ := r
  exact ⟨a, rfl, ⟨vs, SqL.of h1, h3.ws⟩, walks_list fun ex1 m1 S1 H1 R1 E1 _ => ⟨vs, SqL.of (E1.keep a _ h1 fun z => h2 (List.mem_append_right _ z)), E1.rws h3.ws⟩⟩
theorem walks_fl {K : PySem.W.Frag} {ex m : List Addr} {S : Sto} {H : Hp} {ds : List D} {v : V} (R : Rel K ex m S H) (r : RW K ex m H (.v (.fl ds)) v) :
    ∃ a, v = .ref a ∧ (∃ xs, SqL K H a xs ∧ RWs K ex m H (ds.map W.v) xs) ∧ Walks K ex m H (Itl K a) (ds.map W.v) free := by
  have r : RD K (ex ++ m) H (.fl ds) v := r
  rw [RD] at r
  obtain ⟨a, vs, rfl, h1, h3⟩ := r
  have sq : ∀ {ex1 m1 H1}, Ext K ex m H ex1 m1 H1 → SqL K H1 a vs := fun {ex1 m1 H1} E1 => by
    rcases h1 with ⟨o, h1⟩ | h1
    · exact .inl (.inr ⟨o, E1.keep a _ h1 (R.kd.frz h1)⟩)
    · exact .inr h1
  exact ⟨a, rfl, ⟨vs, sq (Ext.of R.kd Stp.refl), h3.ws⟩, walks_list fun ex1 m1 S1 H1 R1 E1 _ => ⟨vs, sq E1, E1.rws h3.ws⟩⟩
theorem walks_tp {K : PySem.W.Frag} {ex m : List Addr} {S : Sto} {H : Hp} {t : Bool} {ds : List D} {v : V} (R : Rel K ex m S H) (r : RW K ex m H (.v (.tup t ds)) v) :
    ∃ a, v = .ref a ∧ (∃ xs, SqT K H a xs ∧ RWs K ex m H (ds.map W.v) xs) ∧ Walks K ex m H (Itt K a) (ds.map W.v) free := by
  have r : RD K (ex ++ m) H (.tup t ds) v := r
  rw [RD] at r
  obtain ⟨a, vs, rfl, h1, h3⟩ := r
  exact ⟨a, rfl, ⟨vs, tupAt_sq h1, h3.ws⟩, walks_tup fun ex1 m1 S1 H1 R1 E1 _ => ⟨vs, E1.sqT R.kd (tupAt_sq h1), E1.rws h3.ws⟩⟩
/-- a walk over a text -/
theorem str_walks {K : PySem.W.Frag} {ex m : List Addr} {H : Hp} {z : Str} : Walks K ex m H (Its z) (z.cps.toList.map fun c => W.v (.str ⟨#[c]⟩)) free := by
  refine ⟨fun ex1 m1 S1 H1 R1 E1 _ i hi => ?_, fun ex1 m1 S1 H1 R1 E1 _ i w hw => ?_⟩
  · show z.cps.toList.length ≤ i
    simpa using hi
  · rw [List.getElem?_map] at hw
    obtain ⟨c, h1, h2⟩ := Option.map_eq_some_iff.mp hw
    subst h2
    refine ⟨?_, fun x H2 y => ?_⟩
    · show i < z.cps.toList.length
      exact (List.getElem?_eq_some_iff.mp h1).1
    · obtain ⟨e, c', e2, e3⟩ : H2 = H1 ∧ ∃ c, z.cps[i]? = some c ∧ x = .str ⟨#[c]⟩ := y
      subst e
      rw [← Array.getElem?_toList, h1] at e2
      cases e2
      subst e3
      exact ⟨Stp.refl, R1, str_rw⟩
theorem walks_cell {K : PySem.W.Frag} {ex m : List Addr} {S : Sto} {H : Hp} {k : Nat} {v : V} (R : Rel K ex m S H) (r : RW K ex m H (.ref k) v) {ws : List W} (h : S[k]? = some (.lst ws)) :
    ∃ a, v = .ref a ∧ (∃ xs, SqL K H a xs ∧ RWs K ex m H ws xs) ∧ Walks K ex m H (Itl K a) ws (fun S => S[k]? = some (.lst ws)) := by
  obtain ⟨a, e, hk⟩ := r
  obtain ⟨vs, h1, h2⟩ := R.cells k _ a h hk
  refine ⟨a, e, ⟨vs, SqL.of h1, h2⟩, walks_list fun ex1 m1 S1 H1 R1 E1 o => ?_⟩
  obtain ⟨vs1, h3, h4⟩ := R1.cells k _ a o (E1.cell k a hk)
  exact ⟨vs1, SqL.of h3, h4⟩
theorem xi_any {f : XE} (he : PE X e (tM X.K f)) : PI X tg e (tMI X.K (xit f)) := by
  refine ⟨fun pins s σ H R I ⟨ex, ρ, m, S, ws, ok, S', Rl, E, hf, q⟩ => ?_⟩
  obtain ⟨⟨w1, S1⟩, h1, h2⟩ := Option.bind_eq_some_iff.mp hf
  obtain ⟨⟨ws1, ok1⟩, h3, h4⟩ := Option.map_eq_some_iff.mp h2
  cases h4
  have h3 : itOf S1 w1 = some (ws1, ok1) := h3
  have hq : ∀ J m' H', Stp m H m' H' → Rel X.K ex m' S1 H' → Walks X.K ex m' H' J ws1 ok1 → R J H' := q
  cases w1 with
  | ref k =>
    unfold itOf at h3
    have h3 : (match S1[k]? with | some (.lst ws) => some (ws, fun (S : Sto) => S[k]? = some (.lst ws)) | _ => none) = some (ws1, ok1) := h3
    split at h3
    · rename_i us hk
      cases h3
      refine (pi_list he).run pins s σ H R I ⟨ex, ρ, m, S, .ref k, S1, Rl, E, h1, fun v m' H' st R' r => ?_⟩
      obtain ⟨a, e, ⟨xs, h5, _⟩, h6⟩ := walks_cell R' r hk
      exact ⟨a, e, ⟨xs, h5⟩, hq _ m' H' st R' h6⟩
    · cases h3
  | v d =>
    cases d with
    | lst ds =>
      cases h3
      refine (pi_list he).run pins s σ H R I ⟨ex, ρ, m, S, _, S1, Rl, E, h1, fun v m' H' st R' r => ?_⟩
      obtain ⟨a, e, ⟨xs, h5, _⟩, h6⟩ := walks_lst R' r
      exact ⟨a, e, ⟨xs, h5⟩, hq _ m' H' st R' h6⟩
    | fl ds =>
      cases h3
      refine (pi_list he).run pins s σ H R I ⟨ex, ρ, m, S, _, S1, Rl, E, h1, fun v m' H' st R' r => ?_⟩
      obtain ⟨a, e, ⟨xs, h5, _⟩, h6⟩ := walks_fl R' r
      exact ⟨a, e, ⟨xs, h5⟩, hq _ m' H' st R' h6⟩
    | tup t ds =>
      cases h3
      refine (pi_tup he).run pins s σ H R I ⟨ex, ρ, m, S, _, S1, Rl, E, h1, fun v m' H' st R' r => ?_⟩
      obtain ⟨a, e, ⟨xs, h5, _⟩, h6⟩ := walks_tp R' r
      exact ⟨a, e, ⟨xs, h5⟩, hq _ m' H' st R' h6⟩
    | str z =>
      cases h3
      refine (pi_str he).run pins s σ H R I ⟨ex, ρ, m, S, _, S1, Rl, E, h1, fun v m' H' st R' r => ?_⟩
      exact ⟨z, rw_str r, hq _ m' H' st R' str_walks⟩
    | _ => cases h3
/-! ranges -/
def rngW (lo hi : Int) : List W := (List.range (hi - lo).toNat).map fun i => .v (.int (lo + (i : Nat)))
theorem rng_walks {K : PySem.W.Frag} {ex m : List Addr} {H : Hp} {lo hi : Int} : Walks K ex m H (Itr lo (hi - lo).toNat) (rngW lo hi) free := by
  refine ⟨fun ex1 m1 S1 H1 R1 E1 _ i h => ?_, fun ex1 m1 S1 H1 R1 E1 _ i w hw => ?_⟩
  · show (hi - lo).toNat ≤ i
    unfold rngW at h
    rw [List.length_map, List.length_range] at h
    exact h
  · unfold rngW at hw
    rw [List.getElem?_map] at hw
    obtain ⟨c, h1, h2⟩ := Option.map_eq_some_iff.mp hw
    subst h2
    obtain ⟨hl, hv⟩ := List.getElem?_eq_some_iff.mp h1
    rw [List.length_range] at hl
    rw [List.getElem_range] at hv
    subst hv
    refine ⟨hl, fun x H2 y => ?_⟩
    obtain ⟨e, e3⟩ : H2 = H1 ∧ x = .int (lo + (i : Nat)) := y
    subst e
    subst e3
    exact ⟨Stp.refl, R1, int_rw⟩
def BIG : Int := 1000000000000000000
/-- (decided by choice: nobody shall reckon it out) -/
noncomputable def rngOk (lo hi : Int) : Bool := @decide (-BIG ≤ lo ∧ lo ≤ BIG ∧ -BIG ≤ hi ∧ hi ≤ BIG) (Classical.propDecidable _)
theorem rngOk_iff {lo hi : Int} : rngOk lo hi = true ↔ (-BIG ≤ lo ∧ lo ≤ BIG ∧ -BIG ≤ hi ∧ hi ≤ BIG) := @decide_eq_true_iff _ (Classical.propDecidable _)
theorem rngOk_eq {lo hi : Int} (h : rngOk lo hi = true) : -(2 ^ 62) ≤ lo ∧ lo < 2 ^ 62 ∧ -(2 ^ 62) ≤ hi ∧ hi < 2 ^ 62 := by
  have h := rngOk_iff.mp h
  unfold BIG at h
  omega
noncomputable def xirng1 (a : XE) : XI := fun ρ S => (a ρ S).bind fun p => (intOf p.1).bind fun j => if rngOk 0 j = true then some (rngW 0 j, free, p.2) else none
noncomputable def xirng2 (a b : XE) : XI := fun ρ S => (a ρ S).bind fun p => (b ρ p.2).bind fun q => (intOf p.1).bind fun i => (intOf q.1).bind fun j => if rngOk i j = true then some (rngW i j, free, q.2) else none
theorem xi_rng1 {a : Expr} {fa : XE} (hg : Gl X "range") (hm : X.mg "range" = none) (ha : PE X a (tM X.K fa)) (hs : starEach [a] X.env = [(false, eval a X.env)] := by rfl) : PI X tg (.Call (.Name "range" p) [a] [] pos) (tMI X.K (xirng1 fa)) := by
  refine PI.imp (pi_range1 hg hm (pa_cons ha pa_nil hs) hs) fun σ H R ⟨ex, ρ, m, S, ws, ok, S', Rl, E, hf, q⟩ => ?_
  obtain ⟨⟨w1, S1⟩, h1, h2⟩ := Option.bind_eq_some_iff.mp hf
  obtain ⟨j, h3, h4⟩ := Option.bind_eq_some_iff.mp h2
  by_cases c : rngOk 0 j = true
  · rw [if_pos c] at h4
    cases h4
    refine ⟨ex, ρ, m, S, w1, S1, Rl, E, h1, fun v m' H' st R' r => ?_⟩
    rw [intOf_eq (w := w1) h3] at r
    obtain ⟨_, _, c3, c4⟩ := rngOk_eq c
    refine ⟨j, by rw [rw_int r], c3, c4, q _ m' H' st R' ?_⟩
    have := @rng_walks X.K ex m' H' 0 j
    rw [show (j - 0).toNat = j.toNat by simp] at this
    exact this
  · rw [if_neg c] at h4; cases h4
theorem xi_rng2 {a b : Expr} {fa fb : XE} (hg : Gl X "range") (hm : X.mg "range" = none) (ha : PE X a (tM X.K fa)) (hb : PE X b (tM X.K fb)) (hs : starEach [a, b] X.env = [(false, eval a X.env), (false, eval b X.env)] := by rfl) (hs2 : starEach [b] X.env = [(false, eval b X.env)] := by rfl)
    (hs3 : starEach (a :: [b]) X.env = (false, eval a X.env) :: starEach [b] X.env := by rfl) : PI X tg (.Call (.Name "range" p) [a, b] [] pos) (tMI X.K (xirng2 fa fb)) := by
  refine PI.imp (pi_range2 hg hm (pa_cons ha (pa_cons hb pa_nil hs2) hs3) hs hs2) fun σ H R ⟨ex, ρ, m, S, ws, ok, S', Rl, E, hf, q⟩ => ?_
  obtain ⟨⟨w1, S1⟩, h1, h2⟩ := Option.bind_eq_some_iff.mp hf
  obtain ⟨⟨w2, S2⟩, h5, h6⟩ := Option.bind_eq_some_iff.mp h2
  obtain ⟨i, h7, h8⟩ := Option.bind_eq_some_iff.mp h6
  obtain ⟨j, h3, h4⟩ := Option.bind_eq_some_iff.mp h8
  by_cases c : rngOk i j = true
  · rw [if_pos c] at h4
    cases h4
    refine ⟨ex, ρ, m, S, w1, S1, Rl, E, h1, fun v m1 H1 st R1 r1 => ?_⟩
    refine ⟨ex, ρ, m1, S1, w2, S2, R1, E.mono Rl.kd st, h5, fun v2 m2 H2 st2 R2 r2 => ?_⟩
    rw [intOf_eq (w := w1) h7] at r1
    rw [intOf_eq (w := w2) h3] at r2
    obtain ⟨c1, c2, c3, c4⟩ := rngOk_eq c
    exact ⟨i, j, by rw [rw_int r1, rw_int r2], ⟨c1, c2, c3, c4⟩, q _ m2 H2 (st.trans st2) R2 rng_walks⟩
  · rw [if_neg c] at h4; cases h4
/-! enumerate, zip, reversed -/
def enumW : Nat → List D → List W
  | _, [] => []
  | i, d :: ds => .v (.tup false [.int (i : Nat), d]) :: enumW (i + 1) ds
theorem enumW_length : ∀ (ds : List D) (i : Nat), (enumW i ds).length = ds.length
  | [], _ => rfl
  | d :: ds, i => by show (enumW (i + 1) ds).length + 1 = _; rw [enumW_length ds]; rfl
theorem enumW_get : ∀ (ds : List D) (k i : Nat) (w : W), (enumW k ds)[i]? = some w → ∃ d, ds[i]? = some d ∧ w = .v (.tup false [.int ((k + i : Nat) : Int), d])
  | [], _, _, _, h => by cases h
  | d :: ds, k, 0, w, h => by cases h; exact ⟨d, rfl, rfl⟩
  | d :: ds, k, i + 1, w, h => by
    obtain ⟨e, h1, h2⟩ := enumW_get ds (k + 1) i w h
    exact ⟨e, h1, by rw [h2, show k + 1 + i = k + (i + 1) by omega]⟩
/-- the source of a walk: a list as it is taken apart -/
def srcL (S : Sto) (w : W) : Option (List W × (Sto → Prop)) := match w with
  | .v (.lst ds) => some (ds.map .v, free)
  | .v (.fl ds) => some (ds.map .v, free)
  | .ref k => match S[k]? with
    | some (.lst ws) => some (ws, fun S => S[k]? = some (.lst ws))
    | _ => none
  | _ => none
theorem srcL_ok {K : PySem.W.Frag} {ex m : List Addr} {S : Sto} {H : Hp} {w : W} {v : V} (R : Rel K ex m S H) (r : RW K ex m H w v) {ws : List W} {ok : Sto → Prop} (h : srcL S w = some (ws, ok)) :
    ∃ a, v = .ref a ∧ (∃ xs, SqL K H a xs) ∧ ∀ ex1 m1 S1 H1, Rel K ex1 m1 S1 H1 → Ext K ex m H ex1 m1 H1 → ok S1 → ∃ vs, SqL K H1 a vs ∧ RWs K ex1 m1 H1 ws vs := by
  cases w with
  | ref k =>
    have h : (match S[k]? with | some (.lst ws) => some (ws, fun (S : Sto) => S[k]? = some (.lst ws)) | _ => none) = some (ws, ok) := h
    obtain ⟨a, e, hk⟩ := r
    split at h
    · rename_i us hc
      cases h
      obtain ⟨vs, h1, h2⟩ := R.cells k _ a hc hk
      refine ⟨a, e, ⟨vs, SqL.of h1⟩, fun ex1 m1 S1 H1 R1 E1 o => ?_⟩
      obtain ⟨vs1, h3, h4⟩ := R1.cells k _ a o (E1.cell k a hk)
      exact ⟨vs1, SqL.of h3, h4⟩
    · cases h
  | v d =>
    cases d with
    | lst ds =>
      cases h
      have r : RD K (ex ++ m) H (.lst ds) v := r
      rw [RD] at r
      obtain ⟨a, vs, rfl, h1, h2, h3⟩ := r
      exact ⟨a, rfl, ⟨vs, SqL.of h1⟩, fun ex1 m1 S1 H1 R1 E1 _ => ⟨vs, SqL.of (E1.keep a _ h1 fun z => h2 (List.mem_append_right _ z)), E1.rws h3.ws⟩⟩
    | fl ds =>
      cases h
      have r : RD K (ex ++ m) H (.fl ds) v := r
      rw [RD] at r
      obtain ⟨a, vs, rfl, h1, h3⟩ := r
      have sq : ∀ {ex1 m1 H1}, Ext K ex m H ex1 m1 H1 → SqL K H1 a vs := fun {ex1 m1 H1} E1 => by
        rcases h1 with ⟨o, h1⟩ | h1
        · exact .inl (.inr ⟨o, E1.keep a _ h1 (R.kd.frz h1)⟩)
        · exact .inr h1
      exact ⟨a, rfl, ⟨vs, sq (Ext.of R.kd Stp.refl)⟩, fun ex1 m1 S1 H1 R1 E1 _ => ⟨vs, sq E1, E1.rws h3.ws⟩⟩
    | _ => cases h
theorem new_pair {K : PySem.W.Frag} {ex m : List Addr} {S : Sto} {H : Hp} (R : Rel K ex m S H) {T : Addr} {x y : V} {d e : D} (hT : H T = none) (h1 : RW K ex m H (.v d) x) (h2 : RW K ex m H (.v e) y) :
    Stp m H m (upd H T (.tup [x, y])) ∧ Rel K ex m S (upd H T (.tup [x, y])) ∧ RW K ex m (upd H T (.tup [x, y])) (.v (.tup false [d, e])) (.ref T) := by
  refine new_tup (t := false) R hT ?_
  rw [RDs]
  refine ⟨x, [y], rfl, h1, ?_⟩
  rw [RDs]
  exact ⟨y, [], rfl, h2, by rw [RDs]⟩
def xienum (a : XE) : XI := fun ρ S => (a ρ S).bind fun p => (srcL p.2 p.1).bind fun q => (toDs q.1).map fun ds => (enumW 0 ds, q.2, p.2)
theorem xi_enum {f : XE} {tpos : Pos} {elts : List Expr} {kk : Nat} (hg : Gl X "enumerate") (hm : X.mg "enumerate" = none) (ha : PE X e (tM X.K f)) (hs : starEach [e] X.env = [(false, eval e X.env)] := by rfl) :
    PI X (.Tuple elts kk tpos) (.Call (.Name "enumerate" p) [e] [] pos) (tMI X.K (xienum f)) := by
  refine PI.imp (pi_enum hg hm (pa_cons ha pa_nil hs) hs) fun σ H R ⟨ex, ρ, m, S, ws, ok, S', Rl, E, hf, q⟩ => ?_
  obtain ⟨⟨w1, S1⟩, h1, h2⟩ := Option.bind_eq_some_iff.mp hf
  obtain ⟨⟨us, ok1⟩, h3, h4⟩ := Option.bind_eq_some_iff.mp h2
  obtain ⟨ds, h5, h6⟩ := Option.map_eq_some_iff.mp h4
  cases h6
  refine ⟨ex, ρ, m, S, w1, S1, Rl, E, h1, fun v m' H' st R' r => ?_⟩
  obtain ⟨a, e, ⟨xs, hx⟩, h7⟩ := srcL_ok R' r h3
  refine ⟨a, xs, by rw [e], hx, q _ m' H' st R' ?_⟩
  have e5 := toDs_eq h5
  have e5 : us = ds.map W.v := e5
  subst e5
  refine ⟨fun ex1 m1 S2 H1 R1 E1 o i hi => ?_, fun ex1 m1 S2 H1 R1 E1 o i w hw => ?_⟩
  · obtain ⟨vs, h8, h9⟩ := h7 ex1 m1 S2 H1 R1 E1 o
    rw [enumW_length] at hi
    exact ⟨vs, h8, by rw [← h9.length, List.length_map]; exact hi⟩
  · obtain ⟨vs, h8, h9⟩ := h7 ex1 m1 S2 H1 R1 E1 o
    obtain ⟨d, h10, h11⟩ := enumW_get ds 0 i w hw
    subst h11
    obtain ⟨y, h12, h13⟩ := h9.get (w := .v d) (i := i) (by rw [List.getElem?_map, h10]; rfl)
    refine ⟨⟨vs, y, h8, h12⟩, fun x H2 yl => ?_⟩
    obtain ⟨T, z, e1, nT, e2, h14⟩ := yl
    subst e1 e2
    have := h14 vs h8
    rw [h12] at this
    cases this
    rw [Nat.zero_add]
    exact new_pair R1 nT int_rw h13
/-- zip: two lists, or two tuples -/
def zipD : List D → List D → List W
  | d :: ds, e :: es => .v (.tup false [d, e]) :: zipD ds es
  | _, _ => []
theorem zipD_length : ∀ ds es : List D, (zipD ds es).length = min ds.length es.length
  | [], _ => by simp [zipD]
  | _ :: _, [] => by simp [zipD]
  | d :: ds, e :: es => by
    show (zipD ds es).length + 1 = _
    rw [zipD_length ds es, List.length_cons, List.length_cons]; omega
theorem zipD_get : ∀ (ds es : List D) (i : Nat) (w : W), (zipD ds es)[i]? = some w → ∃ d e, ds[i]? = some d ∧ es[i]? = some e ∧ w = .v (.tup false [d, e])
  | [], _, _, _, h => by simp [zipD] at h
  | _ :: _, [], _, _, h => by simp [zipD] at h
  | d :: ds, e :: es, 0, w, h => by cases h; exact ⟨d, e, rfl, rfl, rfl⟩
  | d :: ds, e :: es, i + 1, w, h => zipD_get ds es i w h
def xizip (a b : XE) : XI := fun ρ S => (a ρ S).bind fun p => (b ρ p.2).bind fun q => match tupW p.1, tupW q.1 with
  | some xs, some ys => (toDs xs).bind fun ds => (toDs ys).map fun es => (zipD ds es, free, q.2)
  | _, _ => (srcL q.2 p.1).bind fun x => (srcL q.2 q.1).bind fun y => (toDs x.1).bind fun ds => (toDs y.1).map fun es => (zipD ds es, fun S => x.2 S ∧ y.2 S, q.2)
theorem xi_zip {a b : Expr} {fa fb : XE} {tpos : Pos} {elts : List Expr} {kk : Nat} (hg : Gl X "zip") (hm : X.mg "zip" = none) (ha : PE X a (tM X.K fa)) (hb : PE X b (tM X.K fb))
    (hs : starEach [a, b] X.env = (false, eval a X.env) :: starEach [b] X.env := by rfl) (hs2 : starEach [b] X.env = (false, eval b X.env) :: starEach [] X.env := by rfl) (hpl : (backTo pos (starEach [b] X.env)).any (·.1) = false := by rfl) :
    PI X (.Tuple elts kk tpos) (.Call (.Name "zip" p) [a, b] [] pos) (tMI X.K (xizip fa fb)) := by
  refine PI.imp (RZ.pi_zipA hg hm (pa_cons ha (pa_cons hb pa_nil hs2) hs) hs hpl) fun σ H R ⟨ex, ρ, m, S, ws, ok, S', Rl, E, hf, q⟩ => ?_
  obtain ⟨⟨w1, S1⟩, h1, h2⟩ := Option.bind_eq_some_iff.mp hf
  obtain ⟨⟨w2, S2⟩, h3, h4⟩ := Option.bind_eq_some_iff.mp h2
  refine ⟨ex, ρ, m, S, w1, S1, Rl, E, h1, fun v1 m1 H1 st1 R1 r1 => ?_⟩
  refine ⟨ex, ρ, m1, S1, w2, S2, R1, E.mono Rl.kd st1, h3, fun v2 m2 H2 st2 R2 r2 => ?_⟩
  have r1 := RW.mono R1.kd st2 _ _ r1
  dsimp only at h4
  split at h4
  · rename_i xs ys ex1 ey1
    obtain ⟨ds, h5, h6⟩ := Option.bind_eq_some_iff.mp h4
    obtain ⟨es, h7, h8⟩ := Option.map_eq_some_iff.mp h6
    cases h8
    obtain ⟨p1, vs, e1, h9, h10⟩ := tupW_ok r1 ex1
    obtain ⟨p2, us, e2, h11, h12⟩ := tupW_ok r2 ey1
    have e5 := toDs_eq h5
    subst e5
    have e6 := toDs_eq h7
    subst e6
    refine ⟨p1, p2, vs, us, by rw [e1, e2], .inr ⟨h9, h11, q _ m2 H2 (st1.trans st2) R2 ?_⟩⟩
    refine ⟨fun ex1 m3 S3 H3 R3 E3 _ i hi => ?_, fun ex1 m3 S3 H3 R3 E3 _ i w hw => ?_⟩
    · refine ⟨vs, us, E3.sqT R2.kd h9, E3.sqT R2.kd h11, ?_⟩
      rw [zipD_length] at hi
      rw [← h10.length, ← h12.length, List.length_map, List.length_map]
      omega
    · obtain ⟨d, e, h13, h14, h15⟩ := zipD_get ds es i w hw
      subst h15
      obtain ⟨x, h16, h17⟩ := (E3.rws h10).get (w := .v d) (i := i) (by rw [List.getElem?_map, h13]; rfl)
      obtain ⟨y, h18, h19⟩ := (E3.rws h12).get (w := .v e) (i := i) (by rw [List.getElem?_map, h14]; rfl)
      refine ⟨⟨vs, us, x, y, E3.sqT R2.kd h9, E3.sqT R2.kd h11, h16, h18⟩, fun z H4 yl => ?_⟩
      obtain ⟨T, x', y', e1, nT, e2, h20, h21⟩ := yl
      subst e1 e2
      have := h20 vs (E3.sqT R2.kd h9)
      rw [h16] at this
      cases this
      have := h21 us (E3.sqT R2.kd h11)
      rw [h18] at this
      cases this
      exact new_pair R3 nT h17 h19
  · obtain ⟨⟨xs, ok1⟩, h5, h6⟩ := Option.bind_eq_some_iff.mp h4
    obtain ⟨⟨ys, ok2⟩, h7, h8⟩ := Option.bind_eq_some_iff.mp h6
    obtain ⟨ds, h9, h10⟩ := Option.bind_eq_some_iff.mp h8
    obtain ⟨es, h11, h12⟩ := Option.map_eq_some_iff.mp h10
    cases h12
    obtain ⟨p1, e1, ⟨vs, hv⟩, h13⟩ := srcL_ok R2 r1 h5
    obtain ⟨p2, e2, ⟨us, hu⟩, h14⟩ := srcL_ok R2 r2 h7
    have e5 : xs = ds.map W.v := toDs_eq h9
    subst e5
    have e6 : ys = es.map W.v := toDs_eq h11
    subst e6
    refine ⟨p1, p2, vs, us, by rw [e1, e2], .inl ⟨hv, hu, q _ m2 H2 (st1.trans st2) R2 ?_⟩⟩
    refine ⟨fun ex1 m3 S3 H3 R3 E3 o i hi => ?_, fun ex1 m3 S3 H3 R3 E3 o i w hw => ?_⟩
    · obtain ⟨vs3, a1, a2⟩ := h13 ex1 m3 S3 H3 R3 E3 o.1
      obtain ⟨us3, b1, b2⟩ := h14 ex1 m3 S3 H3 R3 E3 o.2
      refine ⟨vs3, us3, a1, b1, ?_⟩
      rw [zipD_length] at hi
      rw [← a2.length, ← b2.length, List.length_map, List.length_map]
      omega
    · obtain ⟨vs3, a1, a2⟩ := h13 ex1 m3 S3 H3 R3 E3 o.1
      obtain ⟨us3, b1, b2⟩ := h14 ex1 m3 S3 H3 R3 E3 o.2
      obtain ⟨d, e, c1, c2, c3⟩ := zipD_get ds es i w hw
      subst c3
      obtain ⟨x, h16, h17⟩ := a2.get (w := .v d) (i := i) (by rw [List.getElem?_map, c1]; rfl)
      obtain ⟨y, h18, h19⟩ := b2.get (w := .v e) (i := i) (by rw [List.getElem?_map, c2]; rfl)
      refine ⟨⟨vs3, us3, x, y, a1, b1, h16, h18⟩, fun z H4 yl => ?_⟩
      obtain ⟨T, x', y', e1, nT, e2, h20, h21⟩ := yl
      subst e1 e2
      have := h20 vs3 a1
      rw [h16] at this
      cases this
      have := h21 us3 b1
      rw [h18] at this
      cases this
      exact new_pair R3 nT h17 h19
end
end Fy
namespace Fy
open PySem PySem.Spec PyProof.Rows L2

/-! ## for -/
open Classical in
noncomputable def forL (ok : Sto → Prop) (body : W → Rho → Sto → Option Out) : List W → Rho → Sto → Option Out
  | [], ρ, S => if ok S then some (.nx, ρ, S) else none
  | w :: ws, ρ, S => if ok S then (body w ρ S).bind fun q => match q.1 with
      | .nx => forL ok body ws q.2.1 q.2.2
      | .ct => forL ok body ws q.2.1 q.2.2
      | .bk => some (.nx, q.2)
      | .rt w => some (.rt w, q.2)
    else none
noncomputable def xfor (it : XI) (g : XG) (b : XS) : XS := fun ρ S => (it ρ S).bind fun p => forL p.2.1 (fun w ρ S => (g w ρ S).bind fun q => b q.1 q.2) p.1 ρ p.2.2
section
variable {X : Cx} {tg iter : Expr} {body : List Stmt} {pos : Pos}
theorem xs_for {fi : XI} {is : List Nat} {g : XG} {fb : XS} (hp : PassesOwn (model X.prog X.w) X.A X.env X.xe) (hc : X.calm = true) (hi : PI X tg iter (tMI X.K fi)) (hg : PG X tg (tMG X.K is g)) (hb : PSs X body (tMS X.K fb))
    (hs : ∀ x, foldedSetIterable iter X.env x = pure x := by intro _; rfl) : PS X (.For tg iter body [] pos) (tMS X.K (xfor fi g fb)) := by
  refine PS.imp (ps_for hp hc hi hg hb hs) fun D σ H ⟨ex, ρ, m, S, fl, ρ', S', R, E, hf, q⟩ => ?_
  obtain ⟨⟨ws, ok, S1⟩, h1, h2⟩ := Option.bind_eq_some_iff.mp hf
  refine ⟨ex, ρ, m, S, ws, ok, S1, R, E, h1, fun J m1 H1 st1 R1 wk => ?_⟩
  have h2 : forL ok (fun w ρ S => (g w ρ S).bind fun q => fb q.1 q.2) ws ρ S1 = some (fl, ρ', S') := h2
  refine ⟨fun i n σ H => n = ws.length - i ∧ i ≤ ws.length ∧ ∃ ρ m S, Rel X.K ex m S H ∧ Stp m1 H1 m H ∧ RE X.K ex m H ρ σ ∧ forL ok (fun w ρ S => (g w ρ S).bind fun q => fb q.1 q.2) (ws.drop i) ρ S = some (fl, ρ', S') ∧
      ∀ σ' m' H', Stp m H m' H' → Rel X.K ex m' S' H' → RE X.K ex m' H' ρ' σ' → Dn X.K ex m' H' D σ' fl,
    ⟨ws.length, by simp, Nat.zero_le _, ρ, m1, S1, R1, Stp.refl, E.mono R.kd st1, by simpa using h2, fun σ' m' H' st => q σ' m' H' (st1.trans st)⟩, ?_⟩
  rintro i n σ2 H2 ⟨rfl, hi, ρ2, m2, S2, R2, st2, E2, h3, q2⟩
  have ext := Ext.of (K := X.K) (ex := ex) R1.kd st2
  by_cases hlt : i < ws.length
  · obtain ⟨w, hw⟩ : ∃ w, ws[i]? = some w := ⟨ws[i], List.getElem?_eq_getElem hlt⟩
    have ew : ws.drop i = w :: ws.drop (i + 1) := by
      obtain ⟨hl, e⟩ := List.getElem?_eq_some_iff.mp hw
      rw [← e]
      exact List.drop_eq_getElem_cons hl
    rw [ew, forL] at h3
    by_cases co : ok S2
    · rw [if_pos co] at h3
      obtain ⟨⟨fl3, ρ3, S3⟩, h4, h5⟩ := Option.bind_eq_some_iff.mp h3
      obtain ⟨⟨ρ4, S4⟩, h6, h7⟩ := Option.bind_eq_some_iff.mp (show ((g w ρ2 S2).bind fun q => fb q.1 q.2) = some (fl3, ρ3, S3) from h4)
      obtain ⟨go, yl⟩ := wk.go ex m2 S2 H2 R2 ext co i w hw
      refine .inr ⟨go, fun σ H => ∃ ρ m S, Rel X.K ex m S H ∧ Stp m1 H1 m H ∧ RE X.K ex m H ρ σ ∧ forL ok (fun w ρ S => (g w ρ S).bind fun q => fb q.1 q.2) (ws.drop (i + 1)) ρ S = some (fl, ρ', S') ∧
        ∀ σ' m' H', Stp m H m' H' → Rel X.K ex m' S' H' → RE X.K ex m' H' ρ' σ' → Dn X.K ex m' H' D σ' fl, fun σ' H' z => ⟨ws.length - (i + 1), by omega, rfl, hlt, z⟩, fun x H3 y => ?_⟩
      obtain ⟨st3, R3, r3⟩ := yl x H3 y
      refine ⟨ex, ρ2, m2, S2, w, ρ4, S4, R3, E2.mono R2.kd st3, r3, h6, fun σ4 m4 H4 st4 R4 E4 _ => ?_⟩
      refine ⟨ex, ρ4, m4, S4, fl3, ρ3, S3, R4, E4, h7, fun σ5 m5 H5 st5 R5 E5 => ?_⟩
      have st6 := (st3.trans st4).trans st5
      have q6 : ∀ σ' m' H', Stp m5 H5 m' H' → Rel X.K ex m' S' H' → RE X.K ex m' H' ρ' σ' → Dn X.K ex m' H' D σ' fl := fun σ' m' H' st => q2 σ' m' H' (st6.trans st)
      cases fl3 with
      | nx => exact ⟨ρ3, m5, S3, R5, st2.trans st6, E5, h5, q6⟩
      | ct => exact ⟨ρ3, m5, S3, R5, st2.trans st6, E5, h5, q6⟩
      | bk => cases h5; exact q6 σ5 m5 H5 Stp.refl R5 E5
      | rt w => cases h5; exact q6 σ5 m5 H5 Stp.refl R5 E5
    · rw [if_neg co] at h3; cases h3
  · have ew : ws.drop i = [] := List.drop_eq_nil_of_le (by omega)
    rw [ew, forL] at h3
    by_cases co : ok S2
    · rw [if_pos co] at h3
      cases h3
      exact .inl ⟨wk.stop ex m2 _ H2 R2 ext co i (by omega), q2 σ2 m2 H2 Stp.refl R2 E2⟩
    · rw [if_neg co] at h3; cases h3
end

/-! ## comprehensions -/
def wipeR (ρ : Rho) : List Nat → Rho
  | [] => ρ
  | v :: vs => (wipeR ρ vs).set v none
theorem wipeR_get {ρ : Rho} {i : Nat} {w : W} : ∀ {vs : List Nat}, (wipeR ρ vs)[i]? = some (some w) → ρ[i]? = some (some w) ∧ i ∉ vs
  | [], h => ⟨h, by simp⟩
  | v :: vs, h => by
    unfold wipeR at h
    by_cases hi : v = i
    · subst hi
      by_cases hv : v < (wipeR ρ vs).length
      · rw [List.getElem?_set_self hv] at h; cases h
      · rw [List.getElem?_eq_none (by simpa using hv)] at h; cases h
    · rw [List.getElem?_set_ne hi] at h
      obtain ⟨h1, h2⟩ := wipeR_get h
      exact ⟨h1, by simp only [List.mem_cons, not_or]; exact ⟨fun e => hi e.symm, h2⟩⟩
theorem wipeR_length (ρ : Rho) : ∀ vs : List Nat, (wipeR ρ vs).length = ρ.length
  | [] => rfl
  | v :: vs => by unfold wipeR; rw [List.length_set, wipeR_length ρ vs]
theorem wipe_get (σ : L2.St) (i : Nat) : ∀ vs : List Nat, (wipe σ vs)[i]? = if i ∈ vs ∧ i < σ.length then some none else σ[i]?
  | [] => by simp [wipe]
  | v :: vs => by
    unfold wipe
    by_cases hi : v = i
    · subst hi
      by_cases hv : v < (wipe σ vs).length
      · rw [List.getElem?_set_self hv]
        rw [L2.wipe_length] at hv
        simp [hv]
      · rw [List.getElem?_eq_none (by simpa using hv)]
        rw [L2.wipe_length] at hv
        simp [hv]
    · rw [List.getElem?_set_ne hi, wipe_get σ i vs]
      have : (i ∈ v :: vs) ↔ i ∈ vs := by simp [show i ≠ v from fun e => hi e.symm]
      simp [this]
theorem RE.wipe {K : PySem.W.Frag} {ex m : List Addr} {H : Hp} {ρ : Rho} {σ : L2.St} (E : RE K ex m H ρ σ) (vs : List Nat) : RE K ex m H (wipeR ρ vs) (wipe σ vs) := by
  refine ⟨by rw [wipeR_length, L2.wipe_length]; exact E.1, fun i w h => ?_⟩
  obtain ⟨h1, h2⟩ := wipeR_get h
  obtain ⟨v, h3, r⟩ := E.2 i w h1
  refine ⟨v, ?_, r⟩
  rw [wipe_get, if_neg (fun z => h2 z.1)]
  exact h3
theorem Sames.wipe {is vs : List Nat} {σ σ2 : L2.St} (s : Sames is σ2 (wipe σ vs)) (h : ∀ i, i ∈ is → i ∈ vs) : wipe σ2 vs = wipe σ vs := by
  apply List.ext_getElem?
  intro i
  have hl : σ2.length = σ.length := by rw [s.1, L2.wipe_length]
  rw [wipe_get, wipe_get, hl]
  by_cases c : i ∈ vs ∧ i < σ.length
  · rw [if_pos c, if_pos c]
  · rw [if_neg c, if_neg c]
    by_cases hv : i ∈ vs
    · have : ¬ i < σ.length := fun z => c ⟨hv, z⟩
      rw [List.getElem?_eq_none (by omega), List.getElem?_eq_none (by omega)]
    · rw [s.2 i (fun z => hv (h i z)), wipe_get, if_neg (fun z => hv z.1)]
/-- the ifs of a comprehension -/
abbrev XTs := XT
def tMTs (K : PySem.W.Frag) (f : XT) : TT := tMT K f
section
variable {X : Cx}
def xtt : XT := fun _ S => some (true, S)
theorem PTs.imp {es : List Expr} {t t' : TT} (h : PTs X es t') (i : ∀ σ H Q, t σ H Q → t' σ H Q) : PTs X es t := ⟨fun pins s σ H Q I q => h.run pins s σ H Q I (i σ H Q q)⟩
end
open Classical in
noncomputable def compL (ok : Sto → Prop) (turn : W → Sto → Option (Option W × Sto)) : List W → Sto → Option (List W × Sto)
  | [], S => if ok S then some ([], S) else none
  | w :: ws, S => if ok S then (turn w S).bind fun p => match p.1 with
      | none => compL ok turn ws p.2
      | some y => (compL ok turn ws p.2).map fun q => (y :: q.1, q.2)
    else none
def lcTurn (vs : List Nat) (g : XG) (t : XT) (e : XE) (ρ : Rho) : W → Sto → Option (Option W × Sto) := fun w S => (g w (wipeR ρ vs) S).bind fun p => (t p.1 p.2).bind fun b => if b.1 = true then (e p.1 b.2).map fun y => (some y.1, y.2) else some (none, b.2)
noncomputable def xlc (it : XI) (vs : List Nat) (g : XG) (t : XT) (e : XE) : XA := fun ρ S => (it ρ S).bind fun p => if p.1.length ≤ LIM then compL p.2.1 (lcTurn vs g t e ρ) p.1 p.2.2 else none
theorem compL_length {ok : Sto → Prop} {turn : W → Sto → Option (Option W × Sto)} : ∀ {ws : List W} {S : Sto} {us : List W} {S' : Sto}, compL ok turn ws S = some (us, S') → us.length ≤ ws.length
  | [], S, us, S', h => by
    rw [compL] at h
    split at h
    · cases h; simp
    · cases h
  | w :: ws, S, us, S', h => by
    rw [compL] at h
    split at h
    · obtain ⟨⟨o, S1⟩, h1, h2⟩ := Option.bind_eq_some_iff.mp h
      cases o with
      | none => exact Nat.le_trans (compL_length h2) (by simp)
      | some y =>
        obtain ⟨⟨us', S2⟩, h3, h4⟩ := Option.map_eq_some_iff.mp h2
        cases h4
        have := compL_length h3
        simpa using this
    · cases h
theorem RE.more {K : PySem.W.Frag} {ex ex' m : List Addr} {H H' : Hp} {ρ : Rho} {σ : L2.St} (E : RE K ex m H ρ σ) (h : ∀ w v, RW K ex m H w v → RW K ex' m H' w v) : RE K ex' m H' ρ σ := ⟨E.1, fun i w e => by
  obtain ⟨v, e', r⟩ := E.2 i w e
  exact ⟨v, e', h w v r⟩⟩
theorem Walks.more {K : PySem.W.Frag} {ex m ex' m' : List Addr} {H H' : Hp} {J : It} {ws : List W} {ok : Sto → Prop} (wk : Walks K ex m H J ws ok) (h : ∀ ex1 m1 H1, Ext K ex' m' H' ex1 m1 H1 → Ext K ex m H ex1 m1 H1) : Walks K ex' m' H' J ws ok :=
  ⟨fun ex1 m1 S1 H1 R E o => wk.stop ex1 m1 S1 H1 R (h _ _ _ E) o, fun ex1 m1 S1 H1 R E o => wk.go ex1 m1 S1 H1 R (h _ _ _ E) o⟩
/-- the heap without D -/
def strip (H : Hp) (D : Addr) : Hp := fun b => if b = D then none else H b
theorem strip_ne {H : Hp} {D b : Addr} (h : b ≠ D) : strip H D b = H b := if_neg h
theorem strip_same {H : Hp} {D : Addr} : strip H D D = none := if_pos rfl
theorem strip_upd {H : Hp} {D : Addr} {o : HO} (h : H D = some o) : upd (strip H D) D o = H := by
  funext b
  by_cases c : b = D
  · subst c; rw [upd_same, h]
  · rw [upd_ne c, strip_ne c]
mutual
theorem RD.strip {K : PySem.W.Frag} {X : List Addr} {H : Hp} {p : Addr} {us : List V} (hp : H p = some (.lst us)) : ∀ (d : D) (v : V), RD K (p :: X) H d v → RD K X (strip H p) d v
  | .non, v, h => by rw [RD] at h ⊢; exact h
  | .bl b, v, h => by rw [RD] at h ⊢; exact h
  | .int i, v, h => by rw [RD] at h ⊢; exact h
  | .str x, v, h => by rw [RD] at h ⊢; exact h
  | .tup t ds, v, h => by
    rw [RD] at h ⊢
    obtain ⟨a, vs, e, h1, h2⟩ := h
    refine ⟨a, vs, e, ?_, RDs.strip hp ds vs h2⟩
    have ne : ∀ {o : HO}, H a = some o → o ≠ .lst us → a ≠ p := fun {o} h n z => by subst z; rw [hp] at h; exact n (Option.some.inj h).symm
    cases t with
    | true =>
      have h1 : H a = some (.tup vs) := h1
      show Fy.strip H p a = _
      rw [strip_ne (ne h1 (by intro z; cases z))]; exact h1
    | false =>
      have h1 : SqT K H a vs := h1
      show SqT K _ a vs
      rcases h1 with (h | ⟨u, h⟩) | h
      · exact .inl (.inl (by rw [strip_ne (ne h (by intro z; cases z))]; exact h))
      · exact .inl (.inr ⟨u, by rw [strip_ne (ne h (by intro z; cases z))]; exact h⟩)
      · exact .inr h
  | .lst ds, v, h => by
    rw [RD] at h ⊢
    obtain ⟨a, vs, e, h1, h2, h3⟩ := h
    simp only [List.mem_cons, not_or] at h2
    exact ⟨a, vs, e, by rw [strip_ne h2.1]; exact h1, h2.2, RDs.strip hp ds vs h3⟩
  | .fl ds, v, h => by
    rw [RD] at h ⊢
    obtain ⟨a, vs, e, h1, h2⟩ := h
    refine ⟨a, vs, e, ?_, RDs.strip hp ds vs h2⟩
    rcases h1 with ⟨u, h⟩ | h
    · exact .inl ⟨u, by rw [strip_ne (fun z => by subst z; rw [hp] at h; cases h)]; exact h⟩
    · exact .inr h
  | .dK ks ds, v, h => by
    rw [RD] at h ⊢
    obtain ⟨a, vs, e, h1, h2, hl, h3⟩ := h
    simp only [List.mem_cons, not_or] at h2
    exact ⟨a, vs, e, by rw [strip_ne h2.1]; exact h1, h2.2, hl, RDs.strip hp ds vs h3⟩
  | .dT ks ds, v, h => by
    rw [RD] at h ⊢
    obtain ⟨a, vs, e, h1, h2, hl, h3⟩ := h
    simp only [List.mem_cons, not_or] at h2
    exact ⟨a, vs, e, by rw [strip_ne h2.1]; exact h1, h2.2, hl, RDs.strip hp ds vs h3⟩
theorem RDs.strip {K : PySem.W.Frag} {X : List Addr} {H : Hp} {p : Addr} {us : List V} (hp : H p = some (.lst us)) : ∀ (ds : List D) (vs : List V), RDs K (p :: X) H ds vs → RDs K X (strip H p) ds vs
  | [], vs, h => by rw [RDs] at h ⊢; exact h
  | d :: ds, vs, h => by
    rw [RDs] at h ⊢
    obtain ⟨x, xs, e, h1, h2⟩ := h
    exact ⟨x, xs, e, RD.strip hp d x h1, RDs.strip hp ds xs h2⟩
end
theorem RW.strip {K : PySem.W.Frag} {ex m : List Addr} {H : Hp} {p : Addr} {us : List V} (hp : H p = some (.lst us)) : ∀ (w : W) (v : V), RW K (p :: ex) m H w v → RW K ex m (strip H p) w v
  | .v d, v, r => RD.strip hp d v r
  | .ref k, v, r => r
theorem CellOk.strip {K : PySem.W.Frag} {ex m : List Addr} {H : Hp} {p : Addr} {us : List V} (hp : H p = some (.lst us)) {a : Addr} (ne : a ≠ p) : ∀ {c : C}, CellOk K (p :: ex) m H a c → CellOk K ex m (strip H p) a c
  | .lst ws, ⟨vs, e, r⟩ => ⟨vs, by rw [strip_ne ne]; exact e, Paired.mapP r (RW.strip hp)⟩
  | .dK kvs, ⟨xs, e, r⟩ => ⟨xs, by rw [strip_ne ne]; exact e, Paired.mapP r fun a b z => ⟨z.1, RW.strip hp _ _ z.2⟩⟩
  | .dT kvs, ⟨xs, e, r⟩ => ⟨xs, by rw [strip_ne ne]; exact e, Paired.mapP r fun a b z => ⟨z.1, RW.strip hp _ _ z.2⟩⟩
theorem Rel.strip {K : PySem.W.Frag} {ex m : List Addr} {S : Sto} {H : Hp} {p : Addr} {us : List V} (r : Rel K (p :: ex) m S H) (nx : p ∉ ex) (hp : H p = some (.lst us)) : Rel K ex m S (strip H p) := by
  have nm : ∀ a, a ∈ m → a ≠ p := fun a h z => r.kd.disj a h (by rw [z]; exact List.mem_cons_self)
  refine ⟨r.len, r.nd, ⟨fun a h => ?_, fun a h z => r.kd.disj a h (List.mem_cons_of_mem _ z), fun a h => ?_⟩, fun k c a h1 h2 => (r.cells k c a h1 h2).strip hp (nm a (List.mem_of_getElem? h2))⟩
  · rw [strip_ne (nm a h)]; exact r.kd.cell a h
  · rw [strip_ne (fun z => nx (by rw [← z]; exact h))]; exact r.kd.fore a (List.mem_cons_of_mem _ h)
theorem Stp.strip {m m' : List Addr} {H H' : Hp} {p : Addr} {o : HO} (h0 : H p = none) (s : Stp m (upd H p o) m' H') : Stp m H m' (strip H' p) := by
  refine ⟨s.pre, fun a u h n => ?_, fun a h n => ?_⟩
  · have ne := ne_of_none h h0
    rw [strip_ne ne]
    exact s.keep a u (by rw [upd_ne ne]; exact h) n
  · have := s.new a h n
    by_cases c : a = p
    · subst c; exact h0
    · rw [upd_ne c] at this; exact this
section
variable {X : Cx}
/-- the new list is laid before the walk and is barred until the end -/
theorem lc_core1 {K : PySem.W.Frag} {it : XI} {is vs : List Nat} {g : XG} {t : XT} {e : XE} {σ : L2.St} {H : Hp} {Q : VK} (hv : ∀ i, i ∈ is → i ∈ vs) (h : tML K (xlc it vs g t e) σ H Q) : tLc (tMI K it) (tMG K is g) (tMT K t) (tM K e) vs σ H Q := by
  obtain ⟨ex, ρ, m, S, us, S', R, E, hf, q⟩ := h
  obtain ⟨⟨ws, ok, S1⟩, h1, h2⟩ := Option.bind_eq_some_iff.mp hf
  have h2 : (if ws.length ≤ LIM then compL ok (lcTurn vs g t e ρ) ws S1 else none) = some (us, S') := h2
  by_cases hl : ws.length ≤ LIM
  · rw [if_pos hl] at h2
    refine ⟨ex, ρ, m, S, ws, ok, S1, R, E, h1, fun J m1 H1 st1 R1 wk D hD => ?_⟩
    obtain ⟨fD, nD⟩ := st1.fresh R.kd R1 hD
    have nDx : D ∉ ex := fun z => nD (List.mem_append_left _ z)
    refine ⟨fun i n H => n = ws.length - i ∧ i ≤ ws.length ∧ ∃ m S H0 acc dn rest, H = upd H0 D (.lst acc) ∧ H0 D = none ∧ Rel K ex m S H0 ∧ Stp m1 H1 m H0 ∧ RWs K ex m H0 dn acc ∧ acc.length ≤ i ∧
        compL ok (lcTurn vs g t e ρ) (ws.drop i) S = some (rest, S') ∧ dn ++ rest = us,
      ⟨ws.length, by simp, Nat.zero_le _, m1, S1, H1, [], [], us, rfl, hD, R1, Stp.refl, .nil, Nat.le_refl _, by simpa using h2, rfl⟩, ?_⟩
    rintro i n H3 ⟨rfl, hi, m3, S3, H0, acc, dn, rest, rfl, hD0, R3, st3, racc, hacc, h3, e3⟩
    obtain ⟨R4, st4, mo⟩ := R3.laidF (o := .lst acc) hD0 trivial
    have ext : Ext K ex m1 H1 (D :: ex) m3 (upd H0 D (.lst acc)) := by
      refine ⟨fun w v r => mo w v (RW.mono R1.kd st3 w v r), fun a o ha na => ?_, (Ext.of (K := K) (ex := ex) R1.kd st3).cell⟩
      rw [upd_ne (ne_of_none ha hD)]
      exact st3.keep a o ha na
    by_cases hlt : i < ws.length
    · obtain ⟨w, hw⟩ : ∃ w, ws[i]? = some w := ⟨ws[i], List.getElem?_eq_getElem hlt⟩
      have ew : ws.drop i = w :: ws.drop (i + 1) := by
        obtain ⟨hl, e⟩ := List.getElem?_eq_some_iff.mp hw
        rw [← e]
        exact List.drop_eq_getElem_cons hl
      rw [ew, compL] at h3
      by_cases co : ok S3
      · rw [if_pos co] at h3
        obtain ⟨⟨o5, S5⟩, h4, h5⟩ := Option.bind_eq_some_iff.mp h3
        obtain ⟨⟨ρ6, S6⟩, h6, h7⟩ := Option.bind_eq_some_iff.mp h4
        obtain ⟨⟨b, S7⟩, h8, h9⟩ := Option.bind_eq_some_iff.mp h7
        obtain ⟨go, yl⟩ := wk.go (D :: ex) m3 S3 _ R4 ext co i w hw
        refine .inr ⟨go, fun H => ∃ m S H0 acc dn rest, H = upd H0 D (.lst acc) ∧ H0 D = none ∧ Rel K ex m S H0 ∧ Stp m1 H1 m H0 ∧ RWs K ex m H0 dn acc ∧ acc.length ≤ i + 1 ∧
          compL ok (lcTurn vs g t e ρ) (ws.drop (i + 1)) S = some (rest, S') ∧ dn ++ rest = us, fun H' z => ⟨ws.length - (i + 1), by omega, rfl, hlt, z⟩, fun x H5 y => ?_⟩
        obtain ⟨st5, R5, r5⟩ := yl x H5 y
        have E5 : RE K (D :: ex) m3 H5 (wipeR ρ vs) (wipe σ vs) := (((E.mono R.kd (st1.trans st3)).more mo).mono R4.kd st5).wipe vs
        refine ⟨D :: ex, wipeR ρ vs, m3, S3, w, ρ6, S6, R5, E5, r5, h6, fun σ6 m6 H6 st6 R6 E6 s6 => ⟨s6.wipe hv, ?_⟩⟩
        refine ⟨D :: ex, ρ6, m6, S6, b, S7, R6, E6, h8, fun m7 H7 st7 R7 => ?_⟩
        have h9 : (if b = true then (e ρ6 S7).map fun y => ((some y.1 : Option W), y.2) else some (none, S7)) = some (o5, S5) := h9
        have nD3 : D ∉ m3 := fun z => by
          have := R3.kd.cell D z
          rw [hD0] at this; exact this
        -- the end of a turn
        have st37 := (st5.trans st6).trans st7
        have hD7 : H7 D = some (.lst acc) := st37.keep D _ upd_same nD3
        cases b with
        | false =>
          rw [if_neg Bool.false_ne_true] at h9
          cases h9
          simp only []
          rw [if_neg Bool.false_ne_true]
          exact ⟨m7, _, Fy.strip H7 D, acc, dn, rest, (strip_upd hD7).symm, strip_same, R7.strip nDx hD7, st3.trans (st37.strip hD0), racc.mono R3.kd (st37.strip hD0), Nat.le_succ_of_le hacc, h5, e3⟩
        | true =>
          rw [if_pos rfl] at h9
          simp only []
          rw [if_pos trivial]
          obtain ⟨⟨y8, S8⟩, h10, h11⟩ := Option.map_eq_some_iff.mp h9
          cases h11
          obtain ⟨⟨us2, S9⟩, h12, h13⟩ := Option.map_eq_some_iff.mp h5
          cases h13
          refine ⟨D :: ex, ρ6, m7, S7, y8, S8, R7, E6.mono R6.kd st7, h10, fun v m8 H8 st8 R8 r8 => ?_⟩
          have st38 := st37.trans st8
          have hD8 : H8 D = some (.lst acc) := st38.keep D _ upd_same nD3
          refine ⟨acc, hD8, Nat.lt_of_le_of_lt hacc (Nat.lt_of_lt_of_le hlt (Nat.le_trans hl lim_le)), m8, _, Fy.strip H8 D, acc ++ [v], dn ++ [y8], us2, ?_, strip_same, R8.strip nDx hD8, st3.trans (st38.strip hD0), ?_, ?_, h12, ?_⟩
          · conv => lhs; rw [← strip_upd hD8, upd_upd]
          · exact (racc.mono R3.kd (st38.strip hD0)).append (.cons (RW.strip hD8 _ _ r8) .nil)
          · rw [List.length_append]; simpa using hacc
          · rw [List.append_assoc]; exact e3
      · rw [if_neg co] at h3; cases h3
    · have ew : ws.drop i = [] := List.drop_eq_nil_of_le (by omega)
      rw [ew, compL] at h3
      by_cases co : ok S3
      · rw [if_pos co] at h3
        cases h3
        rw [List.append_nil] at e3
        subst e3
        refine .inl ⟨wk.stop (D :: ex) m3 _ _ R4 ext co i (by omega), ?_⟩
        exact q D acc m3 _ ((st1.trans st3).trans st4) R4 fD upd_same (Paired.mapP racc mo)
      · rw [if_neg co] at h3; cases h3
  · rw [if_neg hl] at h2; cases h2
variable {elt tg iter : Expr} {ifs : List Expr} {scope : Scope} {own : List (Str × Nat)} {pos spos py : Pos}
theorem xl_lc {fi : XI} {is : List Nat} {g : XG} {t : XT} {fe : XE} (hc : X.calm = true) (hN : X.N.Nodup) (hi : PI X tg iter (tMI X.K fi)) (ok : BlkOk X.N X.env.scope scope own)
    (hg : ∀ (s : Shared) (H : Hp) (C : Addr) (cl : List (Str × Addr)) (fp : List Addr), PG (X.blk s H scope (compEnvC scope cl C X.env) fp) tg (tMG X.K is g)) (ht : ∀ (s : Shared) (H : Hp) (C : Addr) (cl : List (Str × Addr)) (fp : List Addr), PTs (X.blk s H scope (compEnvC scope cl C X.env) fp) ifs (tMT X.K t))
    (he : ∀ (s : Shared) (H : Hp) (C : Addr) (cl : List (Str × Addr)) (fp : List Addr), PE (X.blk s H scope (compEnvC scope cl C X.env) fp) elt (tM X.K fe)) (hv : ∀ i, i ∈ is → i ∈ own.map (·.2) := by decide) (hs : ∀ x, foldedSetIterable iter X.env x = pure x := by intro _; rfl) :
    PE X (.ListComp elt [⟨tg, iter, ifs, 0⟩] scope pos) (tML X.K (xlc fi (own.map (·.2)) g t fe)) := PE.imp (pe_lc hc hN hi ok hg ht he hs) fun σ H Q h => lc_core1 hv h
/-- name = [..] -/
theorem xs_setLcV {i : Nat} {y : Str} {fi : XI} {is : List Nat} {g : XG} {t : XT} {fe : XE} (hc : X.calm = true) (hN : X.N.Nodup) (hy : X.N[i]? = some y) (hyl : X.env.scope.names.lookup y = some .local)
    (hsw : swapsWith (.ListComp elt [⟨tg, iter, ifs, 0⟩] scope pos) (some (.Name y py)) spos.line X.env = pure true) (hi : PI X tg iter (tMI X.K fi)) (ok : BlkOk X.N X.env.scope scope own)
    (hg : ∀ (s : Shared) (H : Hp) (C : Addr) (cl : List (Str × Addr)) (fp : List Addr), PG (X.blk s H scope (compEnvC scope cl C X.env) fp) tg (tMG X.K is g)) (ht : ∀ (s : Shared) (H : Hp) (C : Addr) (cl : List (Str × Addr)) (fp : List Addr), PTs (X.blk s H scope (compEnvC scope cl C X.env) fp) ifs (tMT X.K t))
    (he : ∀ (s : Shared) (H : Hp) (C : Addr) (cl : List (Str × Addr)) (fp : List Addr), PE (X.blk s H scope (compEnvC scope cl C X.env) fp) elt (tM X.K fe)) (hv : ∀ i, i ∈ is → i ∈ own.map (·.2) := by decide) (hs : ∀ x, foldedSetIterable iter X.env x = pure x := by intro _; rfl) :
    PS X (.Assign [.Name y py] (.ListComp elt [⟨tg, iter, ifs, 0⟩] scope pos) spos) (tMS X.K (xasg i (xval (xlc fi (own.map (·.2)) g t fe)))) := by
  refine PS.imp (ps_setLc hc hN hy hyl hsw hi ok hg ht he hs) fun D σ H h => ?_
  show tLc _ _ _ _ _ σ H _
  refine lc_core1 hv ?_
  obtain ⟨ex, ρ, m, S, fl, ρ', S', R, E, hf, q⟩ := h
  obtain ⟨⟨w1, S1⟩, h3, h4⟩ := Option.map_eq_some_iff.mp hf
  cases h4
  obtain ⟨⟨ws, S2⟩, h1, h2⟩ := Option.bind_eq_some_iff.mp h3
  obtain ⟨ds, h5, h6⟩ := Option.map_eq_some_iff.mp h2
  cases h6
  have e := toDs_eq h5
  have e : ws = ds.map W.v := e
  subst e
  refine ⟨ex, ρ, m, S, _, S2, R, E, h1, fun p vs m' H' st R' f1 f3 rws => ?_⟩
  refine q _ m' H' st R'.less ((E.mono R.kd st).set i ?_)
  show RD X.K (ex ++ m') _ (.lst ds) _
  rw [RD]
  exact ⟨p, vs, rfl, f3, fun z => (List.mem_append.mp z).elim (R.kd.newF f1) fun z => R'.kd.disj p z List.mem_cons_self, RWs.ds (ds := ds) (Paired.mapP rws (RW.less fun _ z => List.mem_cons_of_mem _ z))⟩
theorem xs_setLcC {i : Nat} {y : Str} {fi : XI} {is : List Nat} {g : XG} {t : XT} {fe : XE} (hc : X.calm = true) (hN : X.N.Nodup) (hy : X.N[i]? = some y) (hyl : X.env.scope.names.lookup y = some .local)
    (hsw : swapsWith (.ListComp elt [⟨tg, iter, ifs, 0⟩] scope pos) (some (.Name y py)) spos.line X.env = pure true) (hi : PI X tg iter (tMI X.K fi)) (ok : BlkOk X.N X.env.scope scope own)
    (hg : ∀ (s : Shared) (H : Hp) (C : Addr) (cl : List (Str × Addr)) (fp : List Addr), PG (X.blk s H scope (compEnvC scope cl C X.env) fp) tg (tMG X.K is g)) (ht : ∀ (s : Shared) (H : Hp) (C : Addr) (cl : List (Str × Addr)) (fp : List Addr), PTs (X.blk s H scope (compEnvC scope cl C X.env) fp) ifs (tMT X.K t))
    (he : ∀ (s : Shared) (H : Hp) (C : Addr) (cl : List (Str × Addr)) (fp : List Addr), PE (X.blk s H scope (compEnvC scope cl C X.env) fp) elt (tM X.K fe)) (hv : ∀ i, i ∈ is → i ∈ own.map (·.2) := by decide) (hs : ∀ x, foldedSetIterable iter X.env x = pure x := by intro _; rfl) :
    PS X (.Assign [.Name y py] (.ListComp elt [⟨tg, iter, ifs, 0⟩] scope pos) spos) (tMS X.K (xasg i (xcel (xlc fi (own.map (·.2)) g t fe)))) := by
  refine PS.imp (ps_setLc hc hN hy hyl hsw hi ok hg ht he hs) fun D σ H h => ?_
  show tLc _ _ _ _ _ σ H _
  refine lc_core1 hv ?_
  obtain ⟨ex, ρ, m, S, fl, ρ', S', R, E, hf, q⟩ := h
  obtain ⟨⟨w1, S1⟩, h3, h4⟩ := Option.map_eq_some_iff.mp hf
  cases h4
  obtain ⟨⟨ws, S2⟩, h1, h2⟩ := Option.map_eq_some_iff.mp h3
  cases h2
  refine ⟨ex, ρ, m, S, ws, S2, R, E, h1, fun p vs m' H' st R' f1 f3 rws => ?_⟩
  obtain ⟨R2, st2⟩ := R'.toCel (c := .lst ws) (R.kd.newF f1) st f1 ⟨vs, f3, rws⟩
  refine q _ _ H' st2 R2 ((E.mono R.kd st2).set i ⟨p, rfl, ?_⟩)
  show (m' ++ [p])[S2.length]? = some p
  rw [← R'.len, List.getElem?_append_right (Nat.le_refl _)]
  simp
/-- the ifs -/
theorem xts_nil : PTs X [] (tMT X.K xtt) := PTs.imp pts_nil fun σ H Q ⟨ex, ρ, m, S, b, S', R, E, hf, q⟩ => by
  have hf : some (true, S) = some (b, S') := hf
  cases hf
  exact q m H Stp.refl R
theorem xts_one {c : Expr} {t : XT} (h : PT X c (tMT X.K t)) : PTs X [c] (tMT X.K t) := pts_one h
end
end Fy
namespace Fy
open PySem PySem.Spec PyProof.Rows L2

/-! ## methods -/
abbrev MF := Sto → W → List W → Option (W × Sto)
def isLs (S : Sto) (w : W) : Bool := (lstW S w).isSome
def isDc (S : Sto) (w : W) : Bool := (dicK S w).isSome || (dicT S w).isSome
def xmeth (ty : Sto → W → Bool) (f : MF) (o : XE) (a : XA) : XE := fun ρ S => (o ρ S).bind fun p => if ty p.2 p.1 = true then (a ρ p.2).bind fun q => f q.2 p.1 q.1 else none
def rMt (K : PySem.W.Frag) (f : MF) : V → List V → Hp → VK → Prop := fun x xs H Q => ∃ ex m S w ws z S', Rel K ex m S H ∧ RW K ex m H w x ∧ RWs K ex m H ws xs ∧ f S w ws = some (z, S') ∧
  ∀ v H', Stp m H m H' → Rel K ex m S' H' → RW K ex m H' z v → Q v H'
section
variable {X : Cx} {o e : Expr} {es : List Expr} {name : Str} {apos cpos : Pos} {T id : String} {f : MF} {fo : XE} {fa : XA}
def TyOk (K : PySem.W.Frag) (T : String) (ty : Sto → W → Bool) : Prop := ∀ ex m S H w x, Rel K ex m S H → RW K ex m H w x → ty S w = true → tyV K T x H
theorem ty_list {K : PySem.W.Frag} : TyOk K "list" isLs := fun ex m S H w x R r h => by
  obtain ⟨ws, hw⟩ := Option.isSome_iff_exists.mp h
  obtain ⟨a, vs, rfl, h1, _⟩ := lstW_ok R r hw
  exact .inl ⟨rfl, vs, h1⟩
theorem ty_dict {K : PySem.W.Frag} : TyOk K "dict" isDc := fun ex m S H w x R r h => by
  unfold isDc at h
  rw [Bool.or_eq_true] at h
  rcases h with h | h
  · obtain ⟨ws, hw⟩ := Option.isSome_iff_exists.mp h
    obtain ⟨a, vs, rfl, h1, _⟩ := dicK_ok R r hw
    exact .inr (.inr (.inl ⟨rfl, .inl ⟨vs, h1⟩⟩))
  · obtain ⟨ws, hw⟩ := Option.isSome_iff_exists.mp h
    obtain ⟨a, vs, rfl, h1, _⟩ := dicT_ok R r hw
    exact .inr (.inr (.inl ⟨rfl, .inr ⟨vs, h1⟩⟩))
theorem xe_bm0 {ty : Sto → W → Bool} (pa : PlainAttrs T) (slot : Slot T name id) (hty : typeOf (.builtin id) = pure (.type "method_descriptor")) (ht : TyOk X.K T ty) (hm : MtR X id (rMt X.K f)) (ho : PE X o (tM X.K fo))
    (hbase : attributeBase o name X.env (eval o X.env) = eval o X.env := by rfl) (hline : (apos.endLine == cpos.line) = true := by rfl) : PE X (.Call (.Attribute o name apos) [] [] cpos) (tM X.K (xmeth ty f fo xnil)) := by
  refine PE.imp (pe_bm0 pa slot hty hm ho hbase hline) fun σ H Q ⟨ex, ρ, m, S, w, S', R, E, hf, q⟩ => ?_
  obtain ⟨⟨w1, S1⟩, h1, h2⟩ := Option.bind_eq_some_iff.mp hf
  have h2 : (if ty S1 w1 = true then f S1 w1 [] else none) = some (w, S') := h2
  by_cases c : ty S1 w1 = true
  · rw [if_pos c] at h2
    refine ⟨ex, ρ, m, S, w1, S1, R, E, h1, fun v m' H' st R' r => ⟨ht _ _ _ _ _ _ R' r c, ex, m', S1, w1, [], w, S', R', r, .nil, h2, fun v2 H2 st2 R2 r2 => q v2 m' H2 (st.trans st2) R2 r2⟩⟩
  · rw [if_neg c] at h2; cases h2
theorem xe_bm {ty : Sto → W → Bool} (pa : PlainAttrs T) (slot : Slot T name id) (hty : typeOf (.builtin id) = pure (.type "method_descriptor")) (ht : TyOk X.K T ty) (hm : MtR X id (rMt X.K f)) (ho : PE X o (tM X.K fo)) (ha : PA X (e :: es) (tMA X.K fa))
    (hbase : attributeBase o name X.env (eval o X.env) = eval o X.env := by rfl)
    (hfew : ((backTo cpos (starEach (e :: es) X.env)).all (fun x => !x.1) && (backToKw cpos (keywordEach [] X.env)).all (fun x => x.1.isSome)
      && decide ((e :: es).length + ([] : List Keyword).length + (if ([] : List Keyword).isEmpty then 0 else 1) < 30)) = true := by rfl)
    (hline : (apos.endLine == cpos.line) = true := by rfl) (hs : starEach (e :: es) X.env = (false, eval e X.env) :: starEach es X.env := by rfl) (hplain : (backTo cpos (starEach es X.env)).any (·.1) = false := by rfl) :
    PE X (.Call (.Attribute o name apos) (e :: es) [] cpos) (tM X.K (xmeth ty f fo fa)) := by
  refine PE.imp (pe_bm pa slot hty hm ho ha hbase hfew hline hs hplain) fun σ H Q ⟨ex, ρ, m, S, w, S', R, E, hf, q⟩ => ?_
  obtain ⟨⟨w1, S1⟩, h1, h2⟩ := Option.bind_eq_some_iff.mp hf
  have h2 : (if ty S1 w1 = true then (fa ρ S1).bind fun q => f q.2 w1 q.1 else none) = some (w, S') := h2
  by_cases c : ty S1 w1 = true
  · rw [if_pos c] at h2
    obtain ⟨⟨ws, S2⟩, h3, h4⟩ := Option.bind_eq_some_iff.mp h2
    refine ⟨ex, ρ, m, S, w1, S1, R, E, h1, fun v m' H' st R' r => ⟨ht _ _ _ _ _ _ R' r c, ex, ρ, m', S1, ws, S2, R', E.mono R.kd st, h3, fun vs m2 H2 st2 R2 r2 => ?_⟩⟩
    exact ⟨ex, m2, S2, w1, ws, w, S', R2, RW.mono R'.kd st2 _ _ r, r2, h4, fun v3 H3 st3 R3 r3 => q v3 m2 H3 ((st.trans st2).trans st3) R3 r3⟩
  · rw [if_neg c] at h2; cases h2
/-- the cell a method works on -/
def celL (S : Sto) : W → Option (Nat × List W)
  | .ref k => match S[k]? with
    | some (.lst ws) => some (k, ws)
    | _ => none
  | _ => none
theorem celL_ok {K : PySem.W.Frag} {ex m : List Addr} {S : Sto} {H : Hp} {w : W} {x : V} {k : Nat} {ws : List W} (R : Rel K ex m S H) (r : RW K ex m H w x) (h : celL S w = some (k, ws)) :
    ∃ a vs, x = .ref a ∧ m[k]? = some a ∧ H a = some (.lst vs) ∧ RWs K ex m H ws vs := by
  cases w with
  | v d => cases h
  | ref j =>
    have h : (match S[j]? with | some (.lst ws) => some (j, ws) | _ => none) = some (k, ws) := h
    split at h
    · rename_i us hc
      cases h
      obtain ⟨a, e, hk⟩ := r
      obtain ⟨vs, h1, h2⟩ := R.cells _ _ a hc hk
      exact ⟨a, vs, e, hk, h1, h2⟩
    · cases h
def appF : MF := fun S w ws => (celL S w).bind fun c => match ws with
  | [y] => if c.2.length < LIM then some (.v .non, S.set c.1 (.lst (c.2 ++ [y]))) else none
  | _ => none
def popF : MF := fun S w ws => (celL S w).bind fun c => match ws with
  | [] => (c.2[c.2.length - 1]?).map fun y => (y, S.set c.1 (.lst c.2.dropLast))
  | _ => none
def popAtF : MF := fun S w ws => (celL S w).bind fun c => match ws with
  | [i] => (intOf i).bind fun i => if -1000000 ≤ i ∧ i ≤ 1000000 then (seqIndex? i c.2.length).bind fun k => (c.2[k]?).map fun y => (y, S.set c.1 (.lst (c.2.eraseIdx k))) else none
  | _ => none
def insF : MF := fun S w ws => (celL S w).bind fun c => match ws with
  | [i, y] => (intOf i).bind fun i => if c.2.length < LIM ∧ 0 ≤ i ∧ i ≤ 1000000 then some (.v .non, S.set c.1 (.lst (c.2.take i.toNat ++ [y] ++ c.2.drop i.toNat))) else none
  | _ => none
theorem lst_wr {K : PySem.W.Frag} {ex m : List Addr} {S : Sto} {H : Hp} {k : Nat} {a : Addr} {ws : List W} {vs : List V} (R : Rel K ex m S H) (hk : m[k]? = some a) (r : RWs K ex m H ws vs) :
    Rel K ex m (S.set k (.lst ws)) (upd H a (.lst vs)) ∧ Stp m H m (upd H a (.lst vs)) := R.write hk trivial fun st => ⟨vs, upd_same, r.mono R.kd st⟩
theorem fm_app : MtR X "list.append" (rMt X.K appF) := by
  intro pins s σ H x xs v us Q I rx rxs ⟨ex, m, S, w, ws, z, S', R, r1, r2, hf, q⟩
  obtain ⟨⟨k, ys⟩, h1, h2⟩ := Option.bind_eq_some_iff.mp hf
  split at h2
  · rename_i y
    have h2 : (if ys.length < LIM then some (W.v .non, S.set k (.lst (ys ++ [y]))) else none) = some (z, S') := h2
    by_cases c : ys.length < LIM
    · rw [if_pos c] at h2
      cases h2
      obtain ⟨a, vs, e, hk, h3, h4⟩ := celL_ok R r1 h1
      obtain ⟨u, e2, r3⟩ := rws1 r2
      subst e2
      obtain ⟨R2, st⟩ := lst_wr R hk (h4.append (.cons r3 .nil))
      exact mt_append pins s σ H x _ v us Q I rx rxs ⟨a, vs, u, e, rfl, h3, by rw [← h4.length]; exact Nat.lt_trans c lim_lt, q _ _ st R2 non_rw⟩
    · rw [if_neg c] at h2; cases h2
  · cases h2
theorem fm_pop : MtR X "list.pop" (rMt X.K popF) := by
  intro pins s σ H x xs v us Q I rx rxs ⟨ex, m, S, w, ws, z, S', R, r1, r2, hf, q⟩
  obtain ⟨⟨k, ys⟩, h1, h2⟩ := Option.bind_eq_some_iff.mp hf
  split at h2
  · obtain ⟨y, h5, h6⟩ := Option.map_eq_some_iff.mp h2
    cases h6
    obtain ⟨a, vs, e, hk, h3, h4⟩ := celL_ok R r1 h1
    cases r2
    obtain ⟨R2, st⟩ := lst_wr R hk h4.dropLast
    obtain ⟨u, h7, h8⟩ := h4.get h5
    refine mt_pop pins s σ H x _ v us Q I rx rxs ⟨a, vs, u, e, rfl, h3, by rw [← h4.length]; exact h7, q _ _ st R2 (RW.mono R.kd st _ _ h8)⟩
  · cases h2
theorem fm_popAt : MtR X "list.pop" (rMt X.K popAtF) := by
  intro pins s σ H x xs v us Q I rx rxs ⟨ex, m, S, w, ws, z, S', R, r1, r2, hf, q⟩
  obtain ⟨⟨k, ys⟩, h1, h2⟩ := Option.bind_eq_some_iff.mp hf
  split at h2
  · obtain ⟨i, h5, h6⟩ := Option.bind_eq_some_iff.mp h2
    by_cases c : -1000000 ≤ i ∧ i ≤ 1000000
    · rw [if_pos c] at h6
      obtain ⟨j, h7, h8⟩ := Option.bind_eq_some_iff.mp h6
      obtain ⟨y, h9, h10⟩ := Option.map_eq_some_iff.mp h8
      cases h10
      obtain ⟨a, vs, e, hk, h3, h4⟩ := celL_ok R r1 h1
      obtain ⟨u, e2, r3⟩ := rws1 r2
      subst e2
      rw [intOf_eq h5] at r3
      obtain ⟨R2, st⟩ := lst_wr R hk (h4.erase j)
      obtain ⟨t, h11, h12⟩ := h4.get h9
      exact mt_popAt pins s σ H x _ v us Q I rx rxs ⟨a, vs, i, j, t, e, by rw [rw_int r3], h3, by omega, by omega, by rw [← h4.length]; exact h7, h11, q _ _ st R2 (RW.mono R.kd st _ _ h12)⟩
    · rw [if_neg c] at h6; cases h6
  · cases h2
theorem fm_ins : MtR X "list.insert" (rMt X.K insF) := by
  intro pins s σ H x xs v us Q I rx rxs ⟨ex, m, S, w, ws, z, S', R, r1, r2, hf, q⟩
  obtain ⟨⟨k, ys⟩, h1, h2⟩ := Option.bind_eq_some_iff.mp hf
  split at h2
  · rename_i i' y
    obtain ⟨i, h5, h6⟩ := Option.bind_eq_some_iff.mp h2
    have h6 : (if ys.length < LIM ∧ 0 ≤ i ∧ i ≤ 1000000 then some (W.v .non, S.set k (.lst (ys.take i.toNat ++ [y] ++ ys.drop i.toNat))) else none) = some (z, S') := h6
    by_cases c : ys.length < LIM ∧ 0 ≤ i ∧ i ≤ 1000000
    · rw [if_pos c] at h6
      cases h6
      obtain ⟨a, vs, e, hk, h3, h4⟩ := celL_ok R r1 h1
      obtain ⟨u, t, e2, r3, r4⟩ := rws2 r2
      subst e2
      rw [intOf_eq h5] at r3
      obtain ⟨R2, st⟩ := lst_wr R hk (((h4.take i.toNat).append (.cons r4 .nil)).append (h4.drop i.toNat))
      exact mt_insert pins s σ H x _ v us Q I rx rxs ⟨a, vs, i, t, e, by rw [rw_int r3], h3, by rw [← h4.length]; exact Nat.lt_trans c.1 lim_lt, c.2.1, by omega, q _ _ st R2 non_rw⟩
    · rw [if_neg c] at h6; cases h6
  · cases h2
/-- the first place of an equal one (flat, or data in a list) -/
def idxD (ds : List D) (d : D) : Option Nat := ds.findIdx? fun z => eqD z d
def idxF : MF := fun S w ws => match ws with
  | [y] => (lstW S w).bind fun xs => (toDs xs).bind fun ds => (dW S y).bind fun d => if flatD d = true ∧ ds.all flatD = true ∨ okD d = true ∧ okD (.lst ds) = true then (idxD ds d).map fun j => (.v (.int (j : Nat)), S) else none
  | _ => none
theorem fm_idx (hu : X.A.units + 65 < cLine) : MtR X "list.index" (rMt X.K idxF) := by
  intro pins s σ H x xs v us Q I rx rxs ⟨ex, m, S, w, ws, z, S', R, r1, r2, hf, q⟩
  unfold idxF at hf
  split at hf
  · rename_i y
    obtain ⟨xs', h1, h2⟩ := Option.bind_eq_some_iff.mp hf
    obtain ⟨ds, h3, h4⟩ := Option.bind_eq_some_iff.mp h2
    obtain ⟨d, h5, h6⟩ := Option.bind_eq_some_iff.mp h4
    obtain ⟨a, vs, e, h7, h8⟩ := lstW_ok R r1 h1
    obtain ⟨u, e2, r3⟩ := rws1 r2
    subst e2
    have rs := h8.toDs h3
    by_cases c : flatD d = true ∧ ds.all flatD = true ∨ okD d = true ∧ okD (.lst ds) = true
    · rw [if_pos c] at h6
      obtain ⟨j, h9, h10⟩ := Option.map_eq_some_iff.mp h6
      cases h10
      obtain ⟨hj, hp, hn⟩ := List.findIdx?_eq_some_iff_getElem.mp h9
      by_cases cf : flatD d = true ∧ ds.all flatD = true
      · have hd : y = .v d := by
          cases y with
          | ref k =>
            obtain ⟨ws', h9, h10⟩ := Option.bind_eq_some_iff.mp (show ((trkW S (.ref k)).bind fun ws => (toDs ws).map D.lst) = some d from h5)
            obtain ⟨ds', _, h12⟩ := Option.map_eq_some_iff.mp h10
            subst h12
            cases cf.1
          | v d' =>
            have h5 : some d' = some d := h5
            cases h5; rfl
        subst hd
        have r3 : RD X.K (ex ++ m) H d u := r3
        obtain ⟨t, h11, h12⟩ := RDs.get rs (List.getElem?_eq_getElem hj)
        have fall : ∀ e ∈ ds, flatD e = true := List.all_eq_true.mp cf.2
        refine mt_index pins s σ H x _ v us Q I rx rxs ⟨a, vs, u, j, t, e, rfl, h7, flat_V r3 cf.1, flat_all rs cf.2, h11, ?_, fun i z' hi hz => ?_, q _ _ Stp.refl R int_rw⟩
        · rw [flat_eq h12 r3 (fall _ (List.getElem_mem hj)) cf.1]; exact hp
        · have hi2 : i < ds.length := Nat.lt_trans hi hj
          obtain ⟨t2, h13, h14⟩ := RDs.get rs (List.getElem?_eq_getElem hi2)
          rw [hz] at h13
          cases h13
          rw [flat_eq h14 r3 (fall _ (List.getElem_mem hi2)) cf.1]
          simpa using hn i hi
      · have c2 : okD d = true ∧ okD (.lst ds) = true := c.resolve_left cf
        have c3 := SeqAt.canLay_of_shaped c2.2
        rw [pyD, PyData.canLay0] at c3
        have c4 : SeqAt.shaped (.list (pyDs ds)) = true := by
          have := c2.2
          unfold okD at this
          rw [pyD] at this
          exact this
        refine mt_indexD hu pins s σ H x _ v us Q I rx rxs ⟨a, u, pyD d, pyDs ds, j, pyD ds[j], e, rfl, .lst h7 (RDs.dp ds vs rs c3), dW_dp R r3 h5 (SeqAt.canLay_of_shaped c2.1), c4, c2.1, ?_, hp, fun i z' hi hz => ?_, q _ _ Stp.refl R int_rw⟩
        · rw [pyDs_map, List.getElem?_map, List.getElem?_eq_getElem hj]; rfl
        · have hi2 : i < ds.length := Nat.lt_trans hi hj
          rw [pyDs_map, List.getElem?_map, List.getElem?_eq_getElem hi2] at hz
          cases hz
          have := hn i hi
          unfold eqD at this
          simpa using this
    · rw [if_neg c] at h6; cases h6
  · cases hf
end

/-! ## defs -/
abbrev Fn := List W → Sto → Option (Ret × Sto)
def spM (K : PySem.W.Frag) (n : Nat) (f : Fn) : Sp := fun vs H Q _ => vs.length = n ∧ ∃ ex m S ws w S', Rel K ex m S H ∧ RWs K ex m H ws vs ∧ f ws S = some (w, S') ∧
  ∀ v m' H', Stp m H m' H' → Rel K ex m' S' H' → RR K ex m' H' w v → Q v H'
def endW : Fl → Option Ret
  | .nx => some (.one (.v .non))
  | .rt w => some w
  | _ => none
/-- a def's meaning from its body's: N slots -/
def defn (N : Nat) (b : XS) : Fn := fun ws S => (b (ws.map some ++ List.replicate (N - ws.length) none) S).bind fun r => (endW r.1).map fun w => (w, r.2.2)
theorem RE.start {K : PySem.W.Frag} {ex m : List Addr} {H : Hp} {N : List Str} {ws : List W} {vs : List V} (r : RWs K ex m H ws vs) : RE K ex m H (ws.map some ++ List.replicate (N.length - ws.length) none) (L2.start N vs) := by
  unfold L2.start
  rw [r.length]
  refine ⟨by simp [r.length], fun i w h => ?_⟩
  by_cases hi : i < ws.length
  · rw [List.getElem?_append_left (by simpa using hi), List.getElem?_map] at h
    obtain ⟨w', h1, h2⟩ := Option.map_eq_some_iff.mp h
    cases h2
    obtain ⟨v, h3, h4⟩ := r.get h1
    refine ⟨v, ?_, h4⟩
    rw [List.getElem?_append_left (by rw [List.length_map, ← r.length]; exact hi), List.getElem?_map, h3]; rfl
  · rw [List.getElem?_append_right (by simpa using hi)] at h
    rw [List.getElem?_replicate] at h
    split at h <;> cases h
section
variable {P : Program} {w : World} {K : PySem.W.Frag} {mg : Str → Option Value} {base : Heap}
theorem fn_ok {x qual : Str} {st : Stmt} {f : Addr} {fd : FuncData} {N ps : List Str} {k : Nat} {b : XS} (F : Fun K x qual st f fd) (S : FnScope N ps (defScope st))
    (hb : ∀ (cdv : Value) (A : Around) (outer : List Env) (s : Shared) (H : Hp) (E : XK), Room k (A.deeper (envOfC qual (defScope st) s.heap.objs.size f cdv)) →
      PSs (cxOf CX0 P w K mg base N qual (defScope st) f cdv A outer s H E).nox (defBody st) (tMS K b)) : FnOk P w K mg base CX0 (k + 1) f fd ps (spM K ps.length (defn N.length b)) := by
  refine F.ok S (fun vs H Q E h => h.1) (fun cdv A outer s H vs Q E hr h => ⟨_, hb cdv A outer s H E hr, ?_⟩)
  obtain ⟨_, ex, m, St, ws, w, S', R, r, hf, q⟩ := h
  obtain ⟨⟨fl, ρ', S2⟩, h1, h2⟩ := Option.bind_eq_some_iff.mp hf
  obtain ⟨z, h3, h4⟩ := Option.map_eq_some_iff.mp h2
  cases h4
  refine ⟨ex, _, m, St, fl, ρ', _, R, RE.start r, h1, fun σ' m' H' st R' E' => ?_⟩
  cases fl with
  | nx =>
    cases h3
    exact q _ m' H' st R' (non_rw (K := K) (ex := ex) (m := m') (H := H'))
  | rt u =>
    cases h3
    exact fun v r => q v m' H' st R' r
  | bk => cases h3
  | ct => cases h3
end
/-! calls -/
def oneR : Ret × Sto → Option (W × Sto)
  | (.one w, S) => some (w, S)
  | _ => none
def xcallS (f : Fn) (a : XA) : XE := fun ρ S => (a ρ S).bind fun p => (f p.1 p.2).bind oneR
section
variable {X : Cx} {CX : CXT} {k : Nat} {f : Addr} {fd : FuncData} {ps : List Str} {x : Str} {p pos : Pos} {e : Expr} {es : List Expr} {fa : XA} {g : Fn}
theorem xe_callS {n : Nat} (F : FnOk X.prog X.w X.K X.mg X.base CX0 k f fd ps (spM X.K n g)) (hr : Room k X.A) (hg : Gl X x) (hm : X.mg x = some (.ref f)) (hk : PySem.W.keepIn X.K (.ref f) = true) (hb : Binds X.K fd ps []) (ha : PA X (e :: es) (tMA X.K fa)) (hn : (e :: es).length = n := by rfl)
    (hdb : (x == ("__debug__" : Str)) = false := by decide) (h1 : starEach (e :: es) X.env = (false, eval e X.env) :: starEach es X.env := by rfl) (h2 : (backTo pos (starEach es X.env)).any (·.1) = false := by rfl)
    (hl : ∀ ρ S ws S', fa ρ S = some (ws, S') → ws.length = n) : PE X (.Call (.Name x p) (e :: es) [] pos) (tM X.K (xcallS g fa)) := by
  refine PE.imp (pe_call F hr hg hm hk hb .nil (pass0 (X := X)) ha hdb h1 h2) fun σ H Q ⟨ex, ρ, m, S, w, S', R, E, hf, q⟩ => ?_
  obtain ⟨⟨ws, S1⟩, h3, h5⟩ := Option.bind_eq_some_iff.mp hf
  obtain ⟨⟨rr, S2⟩, h4, h6⟩ := Option.bind_eq_some_iff.mp h5
  cases rr with
  | tup us => cases h6
  | one w' =>
  have h6 : some (w', S2) = some (w, S') := h6
  cases h6
  refine ⟨ex, ρ, m, S, ws, S1, R, E, h3, fun vs m' H' st R' r => ?_⟩
  show spM X.K n g (vs ++ []) H' Q E0
  rw [List.append_nil]
  exact ⟨by rw [← r.length]; exact hl _ _ _ _ h3, ex, m', S1, ws, .one w, S', R', r, h4, fun v m2 H2 st2 R2 r2 => q v m2 H2 (st.trans st2) R2 r2⟩
theorem xcons_len {a : XE} {r : XA} {n : Nat} (h : ∀ ρ S ws S', r ρ S = some (ws, S') → ws.length = n) : ∀ ρ S ws S', xcons a r ρ S = some (ws, S') → ws.length = n + 1 := fun ρ S ws S' hf => by
  obtain ⟨⟨w, S1⟩, h1, h2⟩ := Option.bind_eq_some_iff.mp hf
  obtain ⟨⟨ws1, S2⟩, h3, h4⟩ := Option.map_eq_some_iff.mp h2
  cases h4
  rw [List.length_cons, h _ _ _ _ h3]
theorem xnil_len : ∀ ρ S ws S', xnil ρ S = some (ws, S') → ws.length = 0 := fun ρ S ws S' hf => by
  have hf : some (([] : List W), S) = some (ws, S') := hf
  cases hf; rfl
/-- what a def hands back, by value: its own cells are read off -/
def mapO (f : W → Option D) : List W → Option (List D)
  | [] => some []
  | w :: ws => (f w).bind fun d => (mapO f ws).map (d :: ·)
def frzW (lo : Nat) (S : Sto) : Nat → W → Option D
  | _, .v d => some d
  | 0, .ref _ => none
  | n + 1, .ref k => if lo ≤ k then match S[k]? with
      | some (.lst ws) => (mapO (frzW lo S n) ws).map .lst
      | some (.dK kvs) => (mapO (frzW lo S n) (kvs.map (·.2))).map fun ds => .dK (kvs.map (·.1)) ds
      | some (.dT kvs) => (mapO (frzW lo S n) (kvs.map (·.2))).map fun ds => .dT (kvs.map (·.1)) ds
      | none => none
    else none
theorem mapO_ok {K : PySem.W.Frag} {ex m : List Addr} {H : Hp} {X : List Addr} {f : W → Option D} (hf : ∀ w v d, RW K ex m H w v → f w = some d → RD K X H d v) : ∀ {ws : List W} {vs : List V} {ds : List D}, RWs K ex m H ws vs → mapO f ws = some ds → RDs K X H ds vs
  | _, _, ds, .nil, h => by cases h; rw [RDs]
  | w :: ws, v :: vs, ds, .cons r t, h => by
    obtain ⟨d, h1, h2⟩ := Option.bind_eq_some_iff.mp (show ((f w).bind fun d => (mapO f ws).map (d :: ·)) = some ds from h)
    obtain ⟨es, h3, h4⟩ := Option.map_eq_some_iff.mp h2
    subst h4
    rw [RDs]
    exact ⟨v, vs, rfl, hf w v d r h1, mapO_ok hf t h3⟩
theorem pair_vals {K : PySem.W.Frag} {ex m : List Addr} {H : Hp} {κ : Type} : ∀ {kvs : List (κ × W)} {xs : List (κ × V)}, Paired (fun p q => p.1 = q.1 ∧ RW K ex m H p.2 q.2) kvs xs → RWs K ex m H (kvs.map (·.2)) (xs.map (·.2)) ∧ xs = (kvs.map (·.1)).zip (xs.map (·.2)) ∧ (kvs.map (·.1)).length = (xs.map (·.2)).length
  | _, _, .nil => ⟨.nil, rfl, rfl⟩
  | (k, w) :: kvs, (k', v) :: xs, .cons r t => by
    obtain ⟨h1, h2, h3⟩ := pair_vals t
    obtain ⟨e, r⟩ := r
    have e : k = k' := e
    subst e
    refine ⟨.cons r h1, ?_, by simpa using h3⟩
    show (k, v) :: xs = (k, v) :: (kvs.map (·.1)).zip (xs.map (·.2))
    rw [← h2]
theorem frz_ok {K : PySem.W.Frag} {ex m : List Addr} {S : Sto} {H : Hp} {lo : Nat} (R : Rel K ex m S H) : ∀ (n : Nat) (w : W) (v : V) (d : D), RW K ex m H w v → frzW lo S n w = some d → RD K (ex ++ m.take lo) H d v
  | n, .v e, v, d, r, h => by
    have h : some e = some d := by cases n <;> exact h
    cases h
    have sub : ∀ a, a ∈ ex ++ m.take lo → a ∈ ex ++ m := fun a z => (List.mem_append.mp z).elim (fun z => List.mem_append_left _ z) fun z => List.mem_append_right _ (List.mem_of_mem_take z)
    exact RD.less sub _ v r
  | 0, .ref k, v, d, r, h => by cases h
  | n + 1, .ref k, v, d, r, h => by
    rw [frzW] at h
    by_cases c : lo ≤ k
    · rw [if_pos c] at h
      obtain ⟨a, e, hk⟩ := r
      have ha : a ∈ m := List.mem_of_getElem? hk
      have na : a ∉ ex ++ m.take lo := fun z => by
        rcases List.mem_append.mp z with z | z
        · exact R.kd.disj a ha z
        · obtain ⟨j, hj⟩ := List.mem_iff_getElem?.mp z
          rw [List.getElem?_take] at hj
          split at hj
          · rename_i hlt
            have := (List.getElem?_inj (List.getElem?_eq_some_iff.mp hj).1 R.nd).mp (hj.trans hk.symm)
            omega
          · cases hj
      have ih : ∀ w v d, RW K ex m H w v → frzW lo S n w = some d → RD K (ex ++ m.take lo) H d v := frz_ok R n
      split at h
      · rename_i ws hc
        obtain ⟨ds, h1, h2⟩ := Option.map_eq_some_iff.mp h
        subst h2
        obtain ⟨vs, h3, h4⟩ := R.cells k _ a hc hk
        rw [RD]
        exact ⟨a, vs, e, h3, na, mapO_ok ih h4 h1⟩
      · rename_i kvs hc
        obtain ⟨ds, h1, h2⟩ := Option.map_eq_some_iff.mp h
        subst h2
        obtain ⟨xs, h3, h4⟩ := R.cells k _ a hc hk
        obtain ⟨h5, h6, h7⟩ := pair_vals h4
        rw [RD]
        exact ⟨a, xs.map (·.2), e, by rw [← h6]; exact h3, na, h7, mapO_ok ih h5 h1⟩
      · rename_i kvs hc
        obtain ⟨ds, h1, h2⟩ := Option.map_eq_some_iff.mp h
        subst h2
        obtain ⟨xs, h3, h4⟩ := R.cells k _ a hc hk
        obtain ⟨h5, h6, h7⟩ := pair_vals h4
        rw [RD]
        exact ⟨a, xs.map (·.2), e, by rw [← h6]; exact h3, na, h7, mapO_ok ih h5 h1⟩
      · cases h
    · rw [if_neg c] at h; cases h
def frzR (lo : Nat) (S : Sto) (n : Nat) : Ret → Option D
  | .one w => frzW lo S n w
  | .tup ws => (mapO (frzW lo S n) ws).map fun ds => .tup true ds
theorem frzR_ok {K : PySem.W.Frag} {ex m : List Addr} {S : Sto} {H : Hp} {lo : Nat} (R : Rel K ex m S H) (n : Nat) (w : Ret) (v : V) (d : D) (r : RR K ex m H w v) (h : frzR lo S n w = some d) : RD K (ex ++ m.take lo) H d v := by
  cases w with
  | one w => exact frz_ok R n w v d r h
  | tup ws =>
    obtain ⟨ds, h1, h2⟩ := Option.map_eq_some_iff.mp h
    subst h2
    obtain ⟨p, vs, e, h3, h4⟩ := r
    rw [RD]
    exact ⟨p, vs, e, h3, mapO_ok (frz_ok R n) h4 h1⟩
theorem Rel.keepAll {K : PySem.W.Frag} {ex m : List Addr} {S : Sto} {H H' : Hp} (R : Rel K ex m S H) (h : ∀ a o, H a = some o → H' a = some o) : Rel K ex m S H' ∧ Stp m H m H' := by
  have st : Stp m H m H' := ⟨⟨[], by simp⟩, fun a o e _ => h a o e, fun a e n => absurd e n⟩
  have same : ∀ a, Mut (H a) → H' a = H a := fun a mu => by
    cases q : H a with
    | none => rw [q] at mu; exact mu.elim
    | some o => exact h a o q
  refine ⟨⟨R.len, R.nd, ⟨fun a e => ?_, R.kd.disj, fun a e => ?_⟩, fun k c a h1 h2 => ?_⟩, st⟩
  · rw [same a (R.kd.cell a e)]; exact R.kd.cell a e
  · rw [same a (R.kd.fore a e)]; exact R.kd.fore a e
  · exact (R.cells k c a h1 h2).mono R.kd st (same a (R.kd.cell a (List.mem_of_getElem? h2)))
/-- a def that works on values alone -/
def runP (g : Fn) (ds : List D) : Option D := (g (ds.map .v) []).bind fun q => frzR 0 q.2 4 q.1
def xcallP (g : Fn) (a : XA) : XE := fun ρ S => (a ρ S).bind fun p => (toDs p.1).bind fun ds => (runP g ds).map fun d => (.v d, p.2)
theorem xe_callP {n : Nat} (F : FnOk X.prog X.w X.K X.mg X.base CX0 k f fd ps (spM X.K n g)) (hr : Room k X.A) (hg : Gl X x) (hm : X.mg x = some (.ref f)) (hk : PySem.W.keepIn X.K (.ref f) = true) (hb : Binds X.K fd ps []) (ha : PA X (e :: es) (tMA X.K fa))
    (hl : ∀ ρ S ws S', fa ρ S = some (ws, S') → ws.length = n)
    (hdb : (x == ("__debug__" : Str)) = false := by decide) (h1 : starEach (e :: es) X.env = (false, eval e X.env) :: starEach es X.env := by rfl) (h2 : (backTo pos (starEach es X.env)).any (·.1) = false := by rfl) :
    PE X (.Call (.Name x p) (e :: es) [] pos) (tM X.K (xcallP g fa)) := by
  refine PE.imp (pe_call F hr hg hm hk hb .nil (pass0 (X := X)) ha hdb h1 h2) fun σ H Q ⟨ex, ρ, m, S, w, S', R, E, hf, q⟩ => ?_
  obtain ⟨⟨ws, S1⟩, h3, h4⟩ := Option.bind_eq_some_iff.mp hf
  obtain ⟨ds, h5, h6⟩ := Option.bind_eq_some_iff.mp h4
  obtain ⟨d, h7, h8⟩ := Option.map_eq_some_iff.mp h6
  cases h8
  obtain ⟨⟨w2, S2⟩, h9, h10⟩ := Option.bind_eq_some_iff.mp h7
  refine ⟨ex, ρ, m, S, ws, S1, R, E, h3, fun vs m' H' st R' r => ?_⟩
  show spM X.K n g (vs ++ []) H' Q E0
  rw [List.append_nil]
  have e5 : ws = ds.map W.v := toDs_eq h5
  subst e5
  have Rc : Rel X.K (ex ++ m') [] [] H' := ⟨rfl, by simp, ⟨fun a h => absurd h List.not_mem_nil, fun a h => absurd h List.not_mem_nil, fun a h => (List.mem_append.mp h).elim (R'.kd.fore a) (R'.kd.cell a)⟩, fun k c a h => by simp at h⟩
  have rc : RWs X.K (ex ++ m') [] H' (ds.map W.v) vs := RDs.ws (by rw [List.append_nil]; exact r.ds)
  refine ⟨by rw [← r.length]; exact hl _ _ _ _ h3, ex ++ m', [], [], ds.map W.v, w2, S2, Rc, rc, h9, fun v m2 H2 st2 R2 r2 => ?_⟩
  obtain ⟨R3, st3⟩ := R'.keepAll fun a o h => st2.keep a o h (by simp)
  have r3 := frzR_ok R2 4 w2 v d r2 h10
  rw [List.take_zero, List.append_nil] at r3
  exact q v m' H2 (st.trans st3) R3 r3
/-- a def that works on the caller's cells and leaves none of its own -/
def okW (n : Nat) : W → Bool
  | .v _ => true
  | .ref k => decide (k < n)
def okC (n : Nat) : C → Bool
  | .lst ws => ws.all (okW n)
  | .dK kvs => kvs.all fun kv => okW n kv.2
  | .dT kvs => kvs.all fun kv => okW n kv.2
def runD (g : Fn) (ws : List W) (S : Sto) : Option (D × Sto) := (g ws S).bind fun q => if (q.2.take S.length).all (okC S.length) = true then (frzR S.length q.2 4 q.1).map fun d => (d, q.2.take S.length) else none
def xcallD (g : Fn) (a : XA) : XE := fun ρ S => (a ρ S).bind fun p => (runD g p.1 p.2).map fun q => (.v q.1, q.2)
theorem RW.cut {K : PySem.W.Frag} {ex m m' : List Addr} {H : Hp} (hp : ∃ e, m' = m ++ e) : ∀ (w : W) (v : V), RW K ex m' H w v → okW m.length w = true → RW K ex m H w v
  | .v d, v, r, _ => RD.less (fun a z => by obtain ⟨e, rfl⟩ := hp; simp only [List.mem_append] at z ⊢; exact z.imp id Or.inl) d v r
  | .ref k, v, r, h => by
    obtain ⟨a, e, hk⟩ := r
    obtain ⟨f, rfl⟩ := hp
    have h : k < m.length := of_decide_eq_true h
    rw [List.getElem?_append_left h] at hk
    exact ⟨a, e, hk⟩
theorem cut_pair {K : PySem.W.Frag} {ex m m' : List Addr} {H : Hp} (hp : ∃ e, m' = m ++ e) {ws : List W} {vs : List V} (r : RWs K ex m' H ws vs) (h : ws.all (okW m.length) = true) : RWs K ex m H ws vs := by
  induction r with
  | nil => exact .nil
  | cons r t ih =>
    rw [List.all_cons, Bool.and_eq_true] at h
    exact .cons (RW.cut hp _ _ r h.1) (ih h.2)
theorem cut_kv {κ : Type} {K : PySem.W.Frag} {ex m m' : List Addr} {H : Hp} (hp : ∃ e, m' = m ++ e) {ws : List (κ × W)} {vs : List (κ × V)} (r : Paired (fun p q => p.1 = q.1 ∧ RW K ex m' H p.2 q.2) ws vs) (h : (ws.all fun kv => okW m.length kv.2) = true) : Paired (fun p q => p.1 = q.1 ∧ RW K ex m H p.2 q.2) ws vs := by
  induction r with
  | nil => exact .nil
  | cons r t ih =>
    rw [List.all_cons, Bool.and_eq_true] at h
    exact .cons ⟨r.1, RW.cut hp _ _ r.2 h.1⟩ (ih h.2)
theorem Rel.cut {K : PySem.W.Frag} {ex m m' : List Addr} {S : Sto} {H : Hp} (R : Rel K ex m' S H) (hp : ∃ e, m' = m ++ e) (h : (S.take m.length).all (okC m.length) = true) : Rel K ex m (S.take m.length) H := by
  have sub : ∀ a, a ∈ m → a ∈ m' := fun a z => by obtain ⟨e, rfl⟩ := hp; exact List.mem_append_left _ z
  have hle : m.length ≤ S.length := by rw [← R.len]; obtain ⟨e, rfl⟩ := hp; simp
  refine ⟨by rw [List.length_take]; omega, by obtain ⟨e, rfl⟩ := hp; exact (List.nodup_append.mp R.nd).1, ⟨fun a z => R.kd.cell a (sub a z), fun a z => R.kd.disj a (sub a z), R.kd.fore⟩, fun k c a h1 h2 => ?_⟩
  have hk : k < m.length := (List.getElem?_eq_some_iff.mp h2).1
  have hc : okC m.length c = true := List.all_eq_true.mp h c (List.mem_of_getElem? h1)
  rw [List.getElem?_take, if_pos hk] at h1
  have h2' : m'[k]? = some a := by obtain ⟨e, rfl⟩ := hp; rw [List.getElem?_append_left hk]; exact h2
  have ok := R.cells k c a h1 h2'
  cases c with
  | lst ws => obtain ⟨vs, e, r⟩ := ok; exact ⟨vs, e, cut_pair hp r hc⟩
  | dK kvs => obtain ⟨vs, e, r⟩ := ok; exact ⟨vs, e, cut_kv hp r hc⟩
  | dT kvs => obtain ⟨vs, e, r⟩ := ok; exact ⟨vs, e, cut_kv hp r hc⟩
theorem xe_callD {n : Nat} (F : FnOk X.prog X.w X.K X.mg X.base CX0 k f fd ps (spM X.K n g)) (hr : Room k X.A) (hg : Gl X x) (hm : X.mg x = some (.ref f)) (hk : PySem.W.keepIn X.K (.ref f) = true) (hb : Binds X.K fd ps []) (ha : PA X (e :: es) (tMA X.K fa))
    (hl : ∀ ρ S ws S', fa ρ S = some (ws, S') → ws.length = n)
    (hdb : (x == ("__debug__" : Str)) = false := by decide) (h1 : starEach (e :: es) X.env = (false, eval e X.env) :: starEach es X.env := by rfl) (h2 : (backTo pos (starEach es X.env)).any (·.1) = false := by rfl) :
    PE X (.Call (.Name x p) (e :: es) [] pos) (tM X.K (xcallD g fa)) := by
  refine PE.imp (pe_call F hr hg hm hk hb .nil (pass0 (X := X)) ha hdb h1 h2) fun σ H Q ⟨ex, ρ, m, S, w, S', R, E, hf, q⟩ => ?_
  obtain ⟨⟨ws, S1⟩, h3, h4⟩ := Option.bind_eq_some_iff.mp hf
  obtain ⟨⟨d, S9⟩, h5, h6⟩ := Option.map_eq_some_iff.mp h4
  cases h6
  obtain ⟨⟨w2, S2⟩, h7, h8⟩ := Option.bind_eq_some_iff.mp h5
  have h8 : (if (S2.take S1.length).all (okC S1.length) = true then (frzR S1.length S2 4 w2).map fun d => (d, S2.take S1.length) else none) = some (d, S9) := h8
  by_cases c : (S2.take S1.length).all (okC S1.length) = true
  · rw [if_pos c] at h8
    obtain ⟨d', h9, h10⟩ := Option.map_eq_some_iff.mp h8
    cases h10
    refine ⟨ex, ρ, m, S, ws, S1, R, E, h3, fun vs m' H' st R' r => ?_⟩
    show spM X.K n g (vs ++ []) H' Q E0
    rw [List.append_nil]
    refine ⟨by rw [← r.length]; exact hl _ _ _ _ h3, ex, m', S1, ws, w2, S2, R', r, h7, fun v m2 H2 st2 R2 r2 => ?_⟩
    have el : S1.length = m'.length := R'.len.symm
    rw [el] at c h9
    have R3 := R2.cut st2.pre c
    have r3 := frzR_ok R2 4 w2 v d r2 h9
    have et : m2.take m'.length = m' := by obtain ⟨e, rfl⟩ := st2.pre; simp
    rw [et] at r3
    have st3 : Stp m' H' m' H2 := ⟨⟨[], by simp⟩, st2.keep, fun a e n => absurd e n⟩
    rw [← el] at R3
    exact q v m' H2 (st.trans st3) R3 r3
  · rw [if_neg c] at h8; cases h8
end
end Fy
namespace Fy
open PySem PySem.Spec PyProof.Rows L2

/-! ## a sort of one's own, stable -/
section
variable {α β : Type}
def insB (lt : α → α → Bool) (x : α) : List α → List α
  | [] => [x]
  | y :: ys => if lt y x = true then y :: insB lt x ys else x :: y :: ys
def isort (lt : α → α → Bool) : List α → List α
  | [] => []
  | x :: xs => insB lt x (isort lt xs)
variable {lt : α → α → Bool}
theorem insB_perm (x : α) : ∀ l : List α, (insB lt x l).Perm (x :: l)
  | [] => List.Perm.refl _
  | y :: ys => by
    unfold insB
    by_cases h : lt y x = true
    · rw [if_pos h]
      exact ((insB_perm x ys).cons y).trans (List.Perm.swap x y ys)
    · rw [if_neg h]
theorem isort_perm : ∀ l : List α, (isort lt l).Perm l
  | [] => List.Perm.refl _
  | x :: xs => (insB_perm x _).trans ((isort_perm xs).cons x)
theorem insB_srt (O : SrtO.Swo lt) (x : α) : ∀ {l : List α}, SrtO.Srtd lt l → SrtO.Srtd lt (insB lt x l)
  | [], _ => SrtO.srtd_one x
  | y :: ys, h => by
    unfold insB
    by_cases c : lt y x = true
    · rw [if_pos c]
      refine List.pairwise_cons.mpr ⟨fun z hz => ?_, insB_srt O x (List.pairwise_cons.mp h).2⟩
      rcases List.mem_cons.mp ((insB_perm x ys).mem_iff.mp hz) with e | hz
      · rw [e]; exact O.asym y x c
      · exact (List.pairwise_cons.mp h).1 z hz
    · rw [if_neg c]
      have c' : lt y x = false := by cases q : lt y x <;> simp_all
      exact List.pairwise_cons.mpr ⟨O.le_all h c', h⟩
theorem isort_srt (O : SrtO.Swo lt) : ∀ l : List α, SrtO.Srtd lt (isort lt l)
  | [] => List.Pairwise.nil
  | x :: xs => insB_srt O x (isort_srt O xs)
theorem insB_cls (O : SrtO.Swo lt) (x z : α) : ∀ l : List α, (insB lt x l).filter (SrtO.eqv lt z) = (x :: l).filter (SrtO.eqv lt z)
  | [] => rfl
  | y :: ys => by
    unfold insB
    by_cases c : lt y x = true
    · rw [if_pos c, List.filter_cons, insB_cls O x z ys, List.filter_cons, List.filter_cons, List.filter_cons]
      by_cases hx : SrtO.eqv lt z x = true
      · by_cases hy : SrtO.eqv lt z y = true
        · have h1 := SrtO.eqv_iff.mp hx
          have h2 := SrtO.eqv_iff.mp hy
          have h3 : lt z x = true := O.lelt h2.2 c
          rw [h1.1] at h3; cases h3
        · simp [hx, hy]
      · simp [hx]
    · rw [if_neg c]
theorem isort_stb (O : SrtO.Swo lt) : ∀ l : List α, SrtO.Stb lt (isort lt l) l
  | [] => SrtO.Stb.refl _
  | x :: xs => ⟨isort_perm _, fun z => by
    show (insB lt x (isort lt xs)).filter _ = _
    rw [insB_cls O, List.filter_cons, List.filter_cons, (isort_stb O xs).cls z]⟩
theorem isort_uniq (O : SrtO.Swo lt) {l out : List α} (h1 : SrtO.Srtd lt out) (h2 : SrtO.Stb lt out l) : out = isort lt l :=
  SrtO.stb_uniq O h1 (isort_srt O l) (h2.trans ⟨(isort_stb O l).perm.symm, fun z => ((isort_stb O l).cls z).symm⟩)
theorem insB_pair {la : α → α → Bool} {lb : β → β → Bool} {R : α → β → Prop} (hl : ∀ a b a' b', R a b → R a' b' → la a a' = lb b b') {a : α} {b : β} (r : R a b) : ∀ {l : List α} {m : List β}, Paired R l m → Paired R (insB la a l) (insB lb b m)
  | _, _, .nil => .cons r .nil
  | x :: l, y :: m, .cons h t => by
    unfold insB
    rw [hl x y a b h r]
    by_cases c : lb y b = true
    · rw [if_pos c, if_pos c]; exact .cons h (insB_pair hl r t)
    · rw [if_neg c, if_neg c]; exact .cons r (.cons h t)
theorem isort_pair {la : α → α → Bool} {lb : β → β → Bool} {R : α → β → Prop} (hl : ∀ a b a' b', R a b → R a' b' → la a a' = lb b b') : ∀ {l : List α} {m : List β}, Paired R l m → Paired R (isort la l) (isort lb m)
  | _, _, .nil => .nil
  | _, _, .cons h t => insB_pair hl h (isort_pair hl t)
theorem isort_length (l : List α) : (isort lt l).length = l.length := (isort_perm l).length_eq
end
theorem lexLt_asym : ∀ x y : List Int, HT.lexLt x y = true → HT.lexLt y x = false
  | [], [], _ => rfl
  | [], _ :: _, _ => rfl
  | _ :: _, [], h => by cases h
  | x :: xs, y :: ys, h => by
    rw [HT.lexLt_cons] at h ⊢
    by_cases e : x = y
    · subst e
      rw [if_pos rfl] at h ⊢
      exact lexLt_asym xs ys h
    · rw [if_neg e, decide_eq_true_eq] at h
      rw [if_neg (Ne.symm e), decide_eq_false_iff_not]; omega
theorem lexLt_tr : ∀ x y z : List Int, HT.lexLt y x = false → HT.lexLt z y = false → HT.lexLt z x = false
  | [], _, [], _, _ => rfl
  | [], [], _ :: _, _, _ => rfl
  | [], _ :: _, _ :: _, _, _ => rfl
  | x :: xs, [], _, h, _ => by cases h
  | x :: xs, y :: ys, [], _, h => by cases h
  | x :: xs, y :: ys, z :: zs, h1, h2 => by
    rw [HT.lexLt_cons] at h1 h2 ⊢
    by_cases e : y = x
    · subst e
      rw [if_pos rfl] at h1
      by_cases e2 : z = y
      · subst e2
        rw [if_pos rfl] at h2 ⊢
        exact lexLt_tr xs ys zs h1 h2
      · rw [if_neg e2, decide_eq_false_iff_not] at h2 ⊢; exact h2
    · rw [if_neg e, decide_eq_false_iff_not] at h1
      by_cases e2 : z = y
      · subst e2
        rw [if_neg e, decide_eq_false_iff_not]; exact h1
      · rw [if_neg e2, decide_eq_false_iff_not] at h2
        rw [if_neg (by omega), decide_eq_false_iff_not]; omega
theorem swo_lexK {α : Type} (k : α → List Int) : SrtO.Swo fun v u => HT.lexLt (k v) (k u) := ⟨fun x y h => lexLt_asym _ _ h, fun x y z h1 h2 => lexLt_tr _ _ _ h1 h2⟩

/-! ## sorted: tuples of ints, any number -/
section
variable {prog : Program} {w : World} {A : Around} {s : Shared}
theorem lex_kat {Q : Bool → Shared → Prop} : ∀ {xs ys : List Value} {ns ms : List Int} (i : Nat), IntsAre xs ns → IntsAre ys ms → Q (HT.lexLt ns ms) s → PySem.W.KatLex prog w A true (decide (xs.length < ys.length)) Q (xs.zip ys) i s
  | _, _, _, _, i, .nil, .nil, q => PySem.W.kat_nil q
  | _, _, _, _, i, .nil, .cons _ _ _, q => PySem.W.kat_nil (by simpa [HT.lexLt_nil_cons] using q)
  | _, _, _, _, i, .cons _ _ _, .nil, q => PySem.W.kat_nil (by simpa [HT.lexLt_cons_nil] using q)
  | _, _, _, _, i, .cons x t r1, .cons y u r2, q => by
    refine PySem.W.kat_cons (SeqAt.EqAt.int_int x t y u prog w _ _ ?_)
    rw [HT.lexLt_cons] at q
    refine PySem.W.kat_go (fun e1 => ?_) (fun e1 => ?_)
    · have ex : x = y := by simpa using e1
      rw [if_pos ex] at q
      refine PySem.W.kat_yes ?_
      have := lex_kat (i + 1) r1 r2 q
      rw [show decide ((_ :: _ : List Value).length < (_ :: _ : List Value).length) = _ from decide_eq_decide.mpr Nat.add_lt_add_iff_right]
      exact this
    · have ex : ¬ x = y := by simpa using e1
      rw [if_neg ex] at q
      exact PySem.W.kat_no (TS.oneLt_ints _ q)
theorem tup_cmp {vs : List Value} (hp : ∀ v ∈ vs, ∃ ns, TS.TupInts s.heap v ns) {k : Value → List Int} (hk : ∀ v ns, TS.TupInts s.heap v ns → k v = ns) : SrtO.Cmp prog w A s (tuples' true) (fun p => p.1 ∈ vs) (SrtO.lt2 fun v u => HT.lexLt (k v) (k u)) := by
  intro p q hm hm'
  obtain ⟨ns, h1⟩ := hp _ hm
  obtain ⟨ms, h2⟩ := hp _ hm'
  show wpAny (model prog w) A (keyLt' (tuples' true) p.1 q.1) (fun r s' => s' = s ∧ r = HT.lexLt (k p.1) (k q.1)) (fun _ _ => False) s
  rw [hk _ _ h1, hk _ _ h2]
  obtain ⟨a, xs, e, ⟨o, ho, hc, n, hd⟩, ix⟩ := h1
  obtain ⟨b, ys, e', ⟨o', ho', hc', n', hd'⟩, iy⟩ := h2
  rw [e, e']
  refine PySem.W.kat_lt ho hd ho' hd' ?_
  have := lex_kat (prog := prog) (w := w) (A := A) (s := s) (Q := fun r s' => s' = s ∧ r = HT.lexLt ns ms) 0 ix iy ⟨rfl, rfl⟩
  simpa using this
theorem tup_firsts {h : Heap} : ∀ {vs : List Value}, (∀ v ∈ vs, ∃ ns, TS.TupInts h v ns ∧ ns ≠ []) → ∃ fs : List Value, PySem.W.KatTups h vs fs ∧ fs.length = vs.length ∧ ∀ f ∈ fs, ∃ x t, f = .int x t
  | [], _ => ⟨[], trivial, rfl, by simp⟩
  | v :: vs, hp => by
    obtain ⟨fs, h1, h2, h3⟩ := tup_firsts fun u hu => hp u (List.mem_cons_of_mem _ hu)
    obtain ⟨ns, ⟨a, xs, e, ⟨o, ho, hc, n, hd⟩, ix⟩, hne⟩ := hp v List.mem_cons_self
    obtain ⟨xl⟩ := xs
    cases ix with
    | nil => exact absurd rfl hne
    | cons x t r =>
      refine ⟨.int x t :: fs, ⟨⟨a, o, _, n, e, ho, hc, hd, rfl⟩, h1⟩, by simp [h2], fun f hf => ?_⟩
      rcases List.mem_cons.mp hf with z | z
      · exact ⟨x, t, z⟩
      · exact h3 f z
theorem tups_sortable {a : Addr} {vs : List Value} (h0 : 0 < vs.length) (hp : ∀ v ∈ vs, ∃ ns, TS.TupInts s.heap v ns ∧ ns ≠ []) (ha : ∀ o, s.heap.get? a = some o → o.cls ≠ .type "tuple") {k : Value → List Int} (hk : ∀ (v : Value) (ns : List Int), v ∈ vs → TS.TupInts s.heap v ns → k v = ns) :
    SrtO.SortableO prog w A s a vs fun v u => HT.lexLt (k v) (k u) := by
  intro h' keep
  have mv : ∀ {v ns}, TS.TupInts s.heap v ns → TS.TupInts h' v ns := fun x => x.keeps fun b o e c => keep b o (fun z => by subst z; exact ha o e c) e
  have hp' : ∀ v ∈ vs, ∃ ns, TS.TupInts h' v ns ∧ ns ≠ [] := fun v hm => by
    obtain ⟨ns, h1, h2⟩ := hp v hm
    exact ⟨ns, mv h1, h2⟩
  obtain ⟨fs, h1, h2, h3⟩ := tup_firsts hp'
  refine ⟨tuples' true, fun Q E hq => ?_, fun p q hm hm' => ?_⟩
  · refine PySem.W.kat_kind (T := .type "int") h1 (by omega) (fun f hm => ?_) (by rfl) ?_
    · obtain ⟨x, t, rfl⟩ := h3 f hm
      exact PySem.W.Looks.now
    · have e : (Value.type "int" != Value.type "tuple") = true := by first | decide +kernel | rfl | decide
      rw [e]
      exact hq
  · have key : ∀ v ∈ vs, TS.intsOf h' v = k v := fun v hv => by
      obtain ⟨ns, x, _⟩ := hp v hv
      rw [hk v ns hv x, (mv x).ints]
    have := tup_cmp (prog := prog) (w := w) (A := A) (s := { s with heap := h' }) (vs := vs) (fun v hv => by obtain ⟨ns, x, _⟩ := hp' v hv; exact ⟨ns, x⟩) (k := TS.intsOf h') (fun v ns x => x.ints) p q hm hm'
    show wpAny (model prog w) A (keyLt' (tuples' true) p.1 q.1) (fun r s' => s' = { s with heap := h' } ∧ r = HT.lexLt (k p.1) (k q.1)) (fun _ _ => False) { s with heap := h' }
    rw [← key _ hm, ← key _ hm']
    exact this
end

/-! ## sorted(x) -/
/-- the key an item is sorted by -/
def keyL : W → List Int
  | .v (.int i) => [i]
  | .v (.tup _ ds) => (intsD ds).getD []
  | _ => []
def ltW (w u : W) : Bool := HT.lexLt (keyL w) (keyL u)
theorem swo_ltW : SrtO.Swo ltW := swo_lexK keyL
def isI : W → Bool
  | .v (.int _) => true
  | _ => false
def isT : W → Bool
  | .v (.tup _ ds) => (intsD ds).isSome && !ds.isEmpty
  | _ => false
/-- what sorted takes: a list, a dict's keys (a dict with tuple keys hands out tuples) -/
def keyTupD (k : List Key) : D := .tup true (k.map fun
  | .inl i => .int i
  | .inr x => .str x)
def keyIntD : Key → D
  | .inl i => .int i
  | .inr x => .str x
def sortF : Sto → List W → Option (List W)
  | S, [x] => match lstW S x with
    | some ws => if ws.all isI = true ∨ ws.all isT = true then some (isort ltW ws) else none
    | none => match dicK S x with
      | some kvs => if kvs.length ≤ LIM ∧ (kvs.map fun kv => W.v (keyIntD kv.1)).all isI = true then some (isort ltW (kvs.map fun kv => W.v (keyIntD kv.1))) else none
      | none => match dicT S x with
        | some kvs => if kvs.length ≤ LIM ∧ (kvs.map fun kv => W.v (keyTupD kv.1)).all isT = true then some (isort ltW (kvs.map fun kv => W.v (keyTupD kv.1))) else none
        | none => none
  | _, _ => none
theorem ltIv_lex : SrtO.ltIv = fun v u => HT.lexLt [SrtO.iv v] [SrtO.iv u] := by
  funext v u
  rw [HT.lexLt_cons]
  unfold SrtO.ltIv
  by_cases h : SrtO.iv v = SrtO.iv u
  · rw [if_pos h, h]; simp [HT.lexLt_nil_nil]
  · rw [if_neg h]
theorem tupInts_uniq {h : Heap} {v : Value} {ns ms : List Int} (x : TS.TupInts h v ns) (y : TS.TupInts h v ms) : ns = ms := by rw [← x.ints, y.ints]
section
variable {K : PySem.W.Frag} {ex m : List Addr} {H : Hp}
/-- the items of the model's list, one by one -/
def ItI (w : W) (u : Value) : Prop := ∃ i t, w = .v (.int i) ∧ u = .int i t
def ItT (K : PySem.W.Frag) (ex m : List Addr) (H : Hp) (h : Heap) (w : W) (u : Value) : Prop := ∃ b ns a, w = .v (.tup b (ns.map D.int)) ∧ u = .ref a ∧ ns ≠ [] ∧ TS.TupInts h u ns ∧ RW K ex m H w (.ref a)
theorem itI_of : ∀ {ws : List W} {xs : List V} {us : List Value}, RWs K ex m H ws xs → Vals xs us → ws.all isI = true → Paired ItI ws us
  | _, _, _, .nil, .nil, _ => .nil
  | w :: ws, _, _, .cons r t, .cons r2 t2, h => by
    rw [List.all_cons, Bool.and_eq_true] at h
    refine .cons ?_ (itI_of t t2 h.2)
    cases w with
    | ref k => cases h.1
    | v d =>
      cases d with
      | int i =>
        rw [rw_int r] at r2
        obtain ⟨t, rfl⟩ := r2
        exact ⟨i, t, rfl, rfl⟩
      | _ => cases h.1
theorem itI_ints : ∀ {ws : List W} {us : List Value}, Paired ItI ws us → ∃ ns, IntsAre us ns
  | _, _, .nil => ⟨[], .nil⟩
  | _, _, .cons ⟨i, t, _, e⟩ r => by
    obtain ⟨ns, h⟩ := itI_ints r
    subst e
    exact ⟨i :: ns, .cons _ _ h⟩
theorem itI_back : ∀ {ws : List W} {us : List Value}, Paired ItI ws us → ∃ xs, RWs K ex m H ws xs ∧ Vals xs us
  | _, _, .nil => ⟨[], .nil, .nil⟩
  | _, _, .cons ⟨i, t, e1, e2⟩ r => by
    obtain ⟨xs, h1, h2⟩ := itI_back r
    subst e1 e2
    exact ⟨.int i :: xs, .cons int_rw h1, .cons ⟨t, rfl⟩ h2⟩
theorem itT_back {h : Heap} : ∀ {ws : List W} {us : List Value}, Paired (ItT K ex m H h) ws us → ∃ xs, RWs K ex m H ws xs ∧ Vals xs us
  | _, _, .nil => ⟨[], .nil, .nil⟩
  | _, _, .cons ⟨b, ns, a, e1, e2, _, _, q⟩ r => by
    obtain ⟨xs, h1, h2⟩ := itT_back r
    subst e2
    exact ⟨.ref a :: xs, .cons q h1, .cons rfl h2⟩
theorem itI_lt {w w' : W} {u u' : Value} (h : ItI w u) (h' : ItI w' u') : ltW w w' = SrtO.ltIv u u' := by
  obtain ⟨i, t, rfl, rfl⟩ := h
  obtain ⟨j, t', rfl, rfl⟩ := h'
  rw [ltIv_lex]; rfl
theorem itT_lt {h : Heap} {w w' : W} {u u' : Value} (p : ItT K ex m H h w u) (p' : ItT K ex m H h w' u') : ltW w w' = HT.lexLt (TS.intsOf h u) (TS.intsOf h u') := by
  obtain ⟨b, ns, a, rfl, rfl, _, x, _⟩ := p
  obtain ⟨b', ms, a', rfl, rfl, _, y, _⟩ := p'
  rw [x.ints, y.ints]
  have e : ∀ (b : Bool) (ns : List Int), keyL (W.v (.tup b (ns.map D.int))) = ns := fun b ns => by
    show (intsD (ns.map D.int)).getD [] = ns
    rw [intsD_map]; rfl
  unfold ltW
  rw [e, e]
variable {X : Cx} {pins : List (Addr × Obj)} {σ : L2.St} {s : Shared}
theorem tupR (I : Inv X pins σ H s) {t : Addr} {ns : List Int} (h : SqT X.K H t (ns.map V.int)) : TS.TupInts s.heap (.ref t) ns := by
  obtain ⟨its, rv, hT, _⟩ := I.tuple h
  exact ⟨t, its.toArray, rfl, hT, by simpa using rv.ints⟩
theorem itT_of (I : Inv X pins σ H s) : ∀ {ws : List W} {xs : List V} {us : List Value}, RWs X.K ex m H ws xs → Vals xs us → ws.all isT = true → Paired (ItT X.K ex m H s.heap) ws us
  | _, _, _, .nil, .nil, _ => .nil
  | w :: ws, _, _, .cons r t, .cons r2 t2, h => by
    rw [List.all_cons, Bool.and_eq_true] at h
    refine .cons ?_ (itT_of I t t2 h.2)
    cases w with
    | ref k => cases h.1
    | v d =>
      cases d with
      | tup b ds =>
        have h1 : ((intsD ds).isSome && !ds.isEmpty) = true := h.1
        rw [Bool.and_eq_true] at h1
        obtain ⟨ns, hn⟩ := Option.isSome_iff_exists.mp h1.1
        have e := intsD_eq hn
        subst e
        have r0 := r
        have r' : RD X.K (ex ++ m) H (.tup b (ns.map D.int)) _ := r
        rw [RD] at r'
        obtain ⟨a, vs, rfl, hT, hd⟩ := r'
        rw [hd.ints] at hT
        cases r2
        refine ⟨b, ns, a, rfl, rfl, ?_, tupR I (tupAt_sq hT), r0⟩
        intro z
        subst z
        exact absurd h1.2 (by decide)
      | _ => cases h.1
theorem itT_tups {h : Heap} {ws : List W} {us : List Value} (p : Paired (ItT K ex m H h) ws us) : ∀ v ∈ us, ∃ ns, TS.TupInts h v ns ∧ ns ≠ [] := by
  induction p with
  | nil => intro v hv; cases hv
  | cons r t ih =>
    intro v hv
    rcases List.mem_cons.mp hv with e | hv
    · obtain ⟨b, ns, a, _, _, h1, h2, _⟩ := r
      subst e
      exact ⟨ns, h2, h1⟩
    · exact ih v hv
end
theorem keys_rws {K : PySem.W.Frag} {ex m : List Addr} {H : Hp} : ∀ {kvs : List (Key × W)} {xs : List (Key × V)}, Paired (fun p q => p.1 = q.1 ∧ RW K ex m H p.2 q.2) kvs xs → RWs K ex m H (kvs.map fun kv => W.v (keyIntD kv.1)) (xs.map fun p => kV p.1)
  | _, _, .nil => .nil
  | (k, w) :: kvs, (k', v) :: xs, .cons r t => by
    refine .cons ?_ (keys_rws t)
    have e : k = k' := r.1
    subst e
    cases k with
    | inl i => exact int_rw
    | inr x => exact str_rw
theorem keyT_rds {K : PySem.W.Frag} {X : List Addr} {H : Hp} : ∀ k : List Key, RDs K X H (k.map fun
  | .inl i => D.int i
  | .inr x => D.str x) (k.map kV)
  | [] => by rw [List.map_nil, RDs]; rfl
  | x :: k => by
    rw [List.map_cons, RDs]
    refine ⟨_, _, rfl, ?_, keyT_rds k⟩
    cases x with
    | inl i => show RD K X H (D.int i) _; rw [RD]; rfl
    | inr i => show RD K X H (D.str i) _; rw [RD]; rfl
theorem keysT_rws {K : PySem.W.Frag} {ex m : List Addr} {H : Hp} : ∀ {kvs : List (List Key × W)} {xs : List (List Key × V)} {bs : List Addr}, Paired (fun p q => p.1 = q.1 ∧ RW K ex m H p.2 q.2) kvs xs → IsKeys H xs bs → RWs K ex m H (kvs.map fun kv => W.v (keyTupD kv.1)) (bs.map V.ref)
  | _, _, _, .nil, .nil => .nil
  | (k, w) :: kvs, (k', v) :: xs, b :: bs, .cons r t, .cons hb tb => by
    refine .cons ?_ (keysT_rws t tb)
    have e : k = k' := r.1
    subst e
    show RD K (ex ++ m) H (keyTupD k) (.ref b)
    unfold keyTupD
    rw [RD]
    exact ⟨b, _, rfl, hb, keyT_rds k⟩
/-- a list's items, sorted: the order, and what comes -/
structure Srts (P : Program) (w : World) (K : PySem.W.Frag) (ex m : List Addr) (H : Hp) (h : Heap) (ws : List W) (us : List Value) (lt : Value → Value → Bool) : Prop where
  swo : SrtO.Swo lt
  able : ∀ (A : Around) (s : Shared) (h' : Heap) (a : Addr), 2 ≤ us.length → (∀ b o, h.get? b = some o → h'.get? b = some o) → (∀ o, h'.get? a = some o → o.cls ≠ .type "tuple") → SrtO.SortableO P w A { s with heap := h' } a us lt
  out : ∃ xs, RWs K ex m H (isort ltW ws) xs ∧ Vals xs (isort lt us)
theorem srts_of {X : Cx} {pins : List (Addr × Obj)} {σ : L2.St} {s : Shared} {ex m : List Addr} {H : Hp} (I : Inv X pins σ H s) {ws : List W} {xs : List V} {us : List Value} (r : RWs X.K ex m H ws xs) (v : Vals xs us) (h : ws.all isI = true ∨ ws.all isT = true) : ∃ lt, Srts X.prog X.w X.K ex m H s.heap ws us lt := by
  rcases h with h | h
  · have p := itI_of r v h
    obtain ⟨ns, hi⟩ := itI_ints p
    exact ⟨SrtO.ltIv, SrtO.swo_int, fun A s' h' a h2 _ _ => SrtO.ints_sortable hi h2, itI_back (isort_pair (R := ItI) (fun a b a' b' x y => itI_lt x y) p)⟩
  · have p := itT_of I r v h
    have tp := itT_tups p
    refine ⟨fun v u => HT.lexLt (TS.intsOf s.heap v) (TS.intsOf s.heap u), swo_lexK _, fun A s' h' a h2 kp ha => ?_, itT_back (isort_pair (R := ItT X.K ex m H s.heap) (fun a b a' b' x y => itT_lt x y) p)⟩
    refine tups_sortable (s := { s' with heap := h' }) (by omega) (fun v hv => ?_) ha fun v ns hv x => ?_
    · obtain ⟨ns, x, y⟩ := tp v hv
      exact ⟨ns, x.keeps fun b o e _ => kp b o e, y⟩
    · obtain ⟨ms, y, _⟩ := tp v hv
      have y' : TS.TupInts h' v ms := y.keeps fun b o e _ => kp b o e
      rw [tupInts_uniq x y', y.ints]
section
variable {X : Cx}
theorem fc_sorted (hcalm : X.calm = true) : CallR X (.builtin "sorted") (rCL X.K sortF) := by
  intro pins s σ H xs us Q I rx ⟨ex, m, S, ws, w, R, rw, hf, q⟩
  unfold sortF at hf
  split at hf
  · obtain ⟨y, rfl, r⟩ := rws1 rw
    split at hf
    · rename_i ws' hw
      by_cases c : ws'.all isI = true ∨ ws'.all isT = true
      · rw [if_pos c] at hf
        cases hf
        obtain ⟨a, vs, rfl, h1, h2⟩ := lstW_ok R r hw
        obtain ⟨its, rv, hl, hz⟩ := I.list h1
        rw [Vals.ref1 rx]
        obtain ⟨lt, O⟩ := srts_of I h2 rv c
        refine SrtO.sorted_ord O.swo hl.isList (by rw [← rv.length]; exact hz) (fun h2 h₁ a' ha kk => O.able _ s h₁ a' h2 (fun b o e => (kk b o e).2) fun o e => ?_) fun out h1 h2 => ?_
        · rw [ha] at e
          cases e
          intro z
          exact absurd (Value.type.inj z) (by decide)
        · have eo := isort_uniq O.swo h1 h2
          subst eo
          obtain ⟨ys, y1, y2⟩ := O.out
          obtain ⟨ep, he'⟩ := PyProof.Rows.sortedAll_at s.heap its (isort lt its).toArray
          have hlen : ys.length ≤ sizeLine := by
            rw [y2.length, isort_length, ← rv.length]
            exact hz
          exact ⟨.ref _, upd H (s.heap.objs.size + 1) (.lst ys), I.laid (t' := s.toks) (fun _ _ => PyProof.Rows.sortedAll_old) (Nat.le_succ _) ⟨hlen, isort lt its, ep, y2, he'⟩, rfl, q _ _ (I.hok.fresh (Nat.le_succ _)) y1⟩
      · rw [if_neg c] at hf; cases hf
    · split at hf
      · rename_i kvs hk
        by_cases c : kvs.length ≤ LIM ∧ (kvs.map fun kv => W.v (keyIntD kv.1)).all isI = true
        · rw [if_pos c] at hf
          cases hf
          obtain ⟨a, xs', rfl, h1, h2⟩ := dicK_ok R r hk
          rw [Vals.ref1 rx]
          obtain ⟨z, lo, vs, rel, dd⟩ := (show ObjOk X.prog X.w H s.heap a (.dK xs') from I.hok a _ h1)
          obtain ⟨ep, hat⟩ := dd.dictAt
          have hl : xs'.length = vs.length := Paired.length rel
          have h16 : vs.length ≤ sizeLine := by rw [← hl]; exact z
          have kk : (xs'.map fun p => kV p.1) = vs.map fun p => kV p.1 := by
            have e := congrArg (List.map kV) (KV.keys rel)
            rw [List.map_map, List.map_map] at e
            exact e
          have rws : RWs X.K ex m H (kvs.map fun kv => W.v (keyIntD kv.1)) (xs'.map fun p => kV p.1) := by
            exact keys_rws h2
          refine Calls.call_function_entry PyProof.Rows.kind_sorted PyProof.Rows.plain_sorted PyProof.Rows.entry_sorted (PyProof.Rows.args_sorted1 _) ?_
          unfold Builtin.«sorted»
          refine wpAny_bind (m := checkCount "sorted" 1 1 _) (wpAny_pure ?_)
          refine wpAny_bind (PySem.W.kdu_collect (A := X.A.in1) (PySem.W.kdl_dict (knd := mixKind X.prog X.w) (kvs := vs) (ep := ep) lo) (I.ok.hd hcalm) hat h16 fun h' tk acc hk hacc => ?_)
          have hal : acc.toList.length = vs.length := by rw [Array.length_toList, hacc.1]
          have rv : Vals (xs'.map fun p => kV p.1) acc.toList := by
            rw [kk]
            exact keys_at hal fun j v e => hacc.2 j v (by rw [← Array.getElem?_toList]; exact e)
          have I1 : Inv X pins σ H { s with heap := h', toks := tk } := I.kept hk
          obtain ⟨lt, O⟩ := srts_of I1 rws rv (.inl c.2)
          refine wpAny_bind (wpAny_newList ?_ (by rw [hal]; exact h16))
          have hoL : (h'.push (seqObj "list" acc.toList.toArray 0)).get? h'.objs.size = some (seqObj "list" acc.toList.toArray 0) := Heap.get?_push_size _ rfl
          show wpAny _ _ _ _ _ { s with heap := h'.push (seqObj "list" acc.toList.toArray 0), toks := tk }
          refine wpAny_bind (wpAny_holding (wpAny_call_entry PyProof.Rows.slot_list_sort ⟨_, hoL, rfl⟩ PyProof.Rows.entry_list_sort
            (SrtO.list_sort_ord (s := { s with heap := h'.push (seqObj "list" acc.toList.toArray 0), toks := tk }) O.swo hoL (by rw [hal]; exact h16) (fun h2 => O.able _ { s with toks := tk } _ _ h2 (fun b o e => Heap.get?_push_of_some _ e) fun o e => ?_) fun out g1 g2 => ⟨_, rfl, ?_⟩)
            (PyProof.Rows.args_list_sort _)))
          · rw [hoL] at e
            cases e
            intro z
            exact absurd (Value.type.inj z) (by decide)
          · have eo := isort_uniq O.swo g1 g2
            subst eo
            obtain ⟨ys, y1, y2⟩ := O.out
            obtain ⟨e', he'⟩ := PyProof.Rows.sortedHeap_at (vs := acc.toList) (out := (isort lt acc.toList).toArray) hoL
            have hlen : ys.length ≤ sizeLine := by
              rw [y2.length, isort_length, hal]
              exact h16
            refine wpAny_pure ⟨_, rfl, .ref h'.objs.size, upd H h'.objs.size (.lst ys), I1.laid (t' := tk) (fun b u e => ?_) (Nat.le_refl _) (show ObjOk X.prog X.w _ _ _ (.lst ys) from ⟨hlen, isort lt acc.toList, e', y2, he'⟩), rfl, q _ _ (I1.hok.fresh (Nat.le_refl _)) y1⟩
            have hb : b < h'.objs.size := Heap.lt_size e
            rw [PyProof.Rows.sortedHeap_old (Nat.ne_of_lt hb) (by rw [size_push']; exact Nat.lt_succ_of_lt hb)]
            exact Heap.get?_push_of_some _ e
        · rw [if_neg c] at hf; cases hf
      · split at hf
        · rename_i kvs hk
          by_cases c : kvs.length ≤ LIM ∧ (kvs.map fun kv => W.v (keyTupD kv.1)).all isT = true
          · rw [if_pos c] at hf
            cases hf
            obtain ⟨a, xs', rfl, h1, h2⟩ := dicT_ok R r hk
            rw [Vals.ref1 rx]
            obtain ⟨z, hs, ks, pr, o, es, ep, ho, hx, hdt, he, hn⟩ := (show ObjOk X.prog X.w H s.heap a (.dT xs') from I.hok a _ h1)
            have l1 : es.size = ks.length := size_of_entries he
            have l2 : xs'.length = ks.length := Paired.length pr
            have h16 : es.size ≤ sizeLine := by rw [l1, ← l2]; exact z
            have ik := isKeys_of pr
            have rws : RWs X.K ex m H (kvs.map fun kv => W.v (keyTupD kv.1)) ((ks.map fun x => x.2.1).map V.ref) := by
              exact keysT_rws h2 ik
            refine Calls.call_function_entry PyProof.Rows.kind_sorted PyProof.Rows.plain_sorted PyProof.Rows.entry_sorted (PyProof.Rows.args_sorted1 _) ?_
            unfold Builtin.«sorted»
            refine wpAny_bind (m := checkCount "sorted" 1 1 _) (wpAny_pure ?_)
            refine wpAny_bind (PySem.W.kdu_collect (A := X.A.in1) (kdl_raw hs hx hdt) (I.ok.hd hcalm) ho h16 fun h' tk acc hk hacc => ?_)
            have hal : acc.toList.length = ks.length := by rw [Array.length_toList, hacc.1]; exact l1
            have ea : acc.toList = ks.map fun x => Value.ref x.2.1 := by
              apply List.ext_getElem?
              intro j
              rw [List.getElem?_map]
              cases hj : acc.toList[j]? with
              | none =>
                have h1 := List.getElem?_eq_none_iff.mp hj
                rw [List.getElem?_eq_none (by omega)]
                all_goals rfl
              | some v =>
                obtain ⟨en, hen, hv⟩ := hacc.2 j v (by rw [← Array.getElem?_toList]; exact hj)
                have qe := entry_at he j
                rw [hen] at qe
                cases hb : ks[j]? with
                | none =>
                  rw [hb] at qe
                  exact nomatch (show some en = none from qe)
                | some b =>
                  rw [hb] at qe
                  have e2 : en = entryOfKey (tupleKind (mixKind X.prog X.w)) b := Option.some.inj qe
                  rw [hv, e2]
                  all_goals rfl
            have rv : Vals ((ks.map fun x => x.2.1).map V.ref) acc.toList := by
              have eb : acc.toList = (ks.map fun x => x.2.1).map Value.ref := by rw [ea, List.map_map]; all_goals rfl
              rw [eb]; exact vals_refs _
            have I1 : Inv X pins σ H { s with heap := h', toks := tk } := I.kept hk
            obtain ⟨lt, O⟩ := srts_of I1 rws rv (.inr c.2)
            have h17 : acc.toList.length ≤ sizeLine := by rw [hal, ← l1]; exact h16
            refine wpAny_bind (wpAny_newList ?_ h17)
            have hoL : (h'.push (seqObj "list" acc.toList.toArray 0)).get? h'.objs.size = some (seqObj "list" acc.toList.toArray 0) := Heap.get?_push_size _ rfl
            show wpAny _ _ _ _ _ { s with heap := h'.push (seqObj "list" acc.toList.toArray 0), toks := tk }
            refine wpAny_bind (wpAny_holding (wpAny_call_entry PyProof.Rows.slot_list_sort ⟨_, hoL, rfl⟩ PyProof.Rows.entry_list_sort
              (SrtO.list_sort_ord (s := { s with heap := h'.push (seqObj "list" acc.toList.toArray 0), toks := tk }) O.swo hoL h17 (fun h2 => O.able _ { s with toks := tk } _ _ h2 (fun b o e => Heap.get?_push_of_some _ e) fun o e => ?_) fun out g1 g2 => ⟨_, rfl, ?_⟩)
              (PyProof.Rows.args_list_sort _)))
            · rw [hoL] at e
              cases e
              intro z
              exact absurd (Value.type.inj z) (by decide)
            · have eo := isort_uniq O.swo g1 g2
              subst eo
              obtain ⟨ys, y1, y2⟩ := O.out
              obtain ⟨e', he'⟩ := PyProof.Rows.sortedHeap_at (vs := acc.toList) (out := (isort lt acc.toList).toArray) hoL
              have hlen : ys.length ≤ sizeLine := by
                rw [y2.length, isort_length]
                exact h17
              refine wpAny_pure ⟨_, rfl, .ref h'.objs.size, upd H h'.objs.size (.lst ys), I1.laid (t' := tk) (fun b u e => ?_) (Nat.le_refl _) (show ObjOk X.prog X.w _ _ _ (.lst ys) from ⟨hlen, isort lt acc.toList, e', y2, he'⟩), rfl, q _ _ (I1.hok.fresh (Nat.le_refl _)) y1⟩
              have hb : b < h'.objs.size := Heap.lt_size e
              rw [PyProof.Rows.sortedHeap_old (Nat.ne_of_lt hb) (by rw [size_push']; exact Nat.lt_succ_of_lt hb)]
              exact Heap.get?_push_of_some _ e
          · rw [if_neg c] at hf; cases hf
        · cases hf
  · cases hf
end
end Fy
namespace Fy
open PySem PySem.Spec PyProof.Rows L2

/-! ## min, max -/
def minW (w : W) (r : List W) : W := r.foldl (fun a y => if ltW y a = true then y else a) w
def maxW (w : W) (r : List W) : W := r.foldl (fun a y => if ltW a y = true then y else a) w
def minF : Sto → List W → Option W
  | S, [x] => (lstW S x).bind fun ws => match ws with
    | [] => none
    | w :: r => if (w :: r).all isI = true ∨ (w :: r).all isT = true then some (minW w r) else none
  | _, [.v (.int i), .v (.int j)] => some (.v (.int (if j < i then j else i)))
  | _, _ => none
def maxF : Sto → List W → Option W
  | S, [x] => (lstW S x).bind fun ws => match ws with
    | [] => none
    | w :: r => if (w :: r).all isI = true then some (maxW w r) else none
  | _, [.v (.int i), .v (.int j)] => some (.v (.int (if j > i then j else i)))
  | _, _ => none
/-- the items, comparable -/
def ItC (K : PySem.W.Frag) (ex m : List Addr) (H : Hp) (h : Heap) (w : W) (u : Value) : Prop := ItI w u ∨ ItT K ex m H h w u
theorem paired_get {α β : Type} {R : α → β → Prop} : ∀ {l : List α} {k : List β}, Paired R l k → ∀ (i : Nat) (b : β), k[i]? = some b → ∃ a, l[i]? = some a ∧ R a b
  | _, _, .nil, i, b, h => by simp at h
  | _, _, .cons r t, 0, b, h => by cases h; exact ⟨_, rfl, r⟩
  | _, _, .cons r t, i + 1, b, h => by simpa using paired_get t i b (by simpa using h)
section
variable {X : Cx} {pins : List (Addr × Obj)} {σ : L2.St} {s : Shared} {ex m : List Addr} {H : Hp} {ws : List W} {us : List Value}
theorem it_lt {A : Around} (hu : A.units < cLine) (hp : ws.length = us.length) (c : Paired ItI ws us ∨ Paired (ItT X.K ex m H s.heap) ws us) :
    CmpIn X.prog X.w A .Lt s.heap (fun i v => us[i]? = some v) (fun i j => ltW (ws.getD i (.v .non)) (ws.getD j (.v .non))) := fun i j vi vj s' Q E hk hi hj hq => by
  rcases c with c | c
  · obtain ⟨a, ha, p1⟩ := paired_get c i vi hi
    obtain ⟨b, hb, p2⟩ := paired_get c j vj hj
    have ea : ws.getD i (.v .non) = a := by rw [List.getD_eq_getElem?_getD, ha]; rfl
    have eb : ws.getD j (.v .non) = b := by rw [List.getD_eq_getElem?_getD, hb]; rfl
    dsimp only at hq
    rw [ea, eb] at hq
    obtain ⟨x, t, rfl, rfl⟩ := p1
    obtain ⟨y, u, rfl, rfl⟩ := p2
    refine PyProof.Rows.lt_int ?_
    have : ltW (.v (.int x)) (.v (.int y)) = decide (x < y) := by
      show HT.lexLt [x] [y] = _
      rw [HT.lexLt_cons]
      by_cases h : x = y
      · rw [if_pos h, h]; simp [HT.lexLt_nil_nil]
      · rw [if_neg h]
    rw [this] at hq
    exact hq
  · obtain ⟨a, ha, p1⟩ := paired_get c i vi hi
    obtain ⟨b, hb, p2⟩ := paired_get c j vj hj
    have ea : ws.getD i (.v .non) = a := by rw [List.getD_eq_getElem?_getD, ha]; rfl
    have eb : ws.getD j (.v .non) = b := by rw [List.getD_eq_getElem?_getD, hb]; rfl
    dsimp only at hq
    rw [ea, eb, itT_lt p1 p2] at hq
    obtain ⟨b1, ns, a1, rfl, rfl, _, x1, _⟩ := p1
    obtain ⟨b2, ms, a2, rfl, rfl, _, x2, _⟩ := p2
    rw [x1.ints, x2.ints] at hq
    obtain ⟨c1, xs, e1, t1, i1⟩ := x1.keeps (h' := s'.heap) fun b o e _ => hk b o e
    obtain ⟨c2, ys, e2, t2, i2⟩ := x2.keeps (h' := s'.heap) fun b o e _ => hk b o e
    cases e1
    cases e2
    exact HT.lt_tupInts t1 t2 i1 i2 hu hq
theorem fold_take {α : Type} (f : α → α → Bool) (d x : α) (xs : List α) : ∃ i, i ≤ xs.length ∧ PySem.argBest (fun i j => f ((x :: xs).getD i d) ((x :: xs).getD j d)) xs.length = i ∧ (x :: xs).getD i d = xs.foldl (fun a y => if f y a then y else a) x := by
  obtain ⟨h1, h2⟩ := PySem.W.argBest_fold f d x xs xs.length (Nat.le_refl _)
  rw [List.take_length] at h2
  exact ⟨_, h1, rfl, h2⟩
theorem fc_min (hc : X.calm = true) (hu : X.A.units + 1 < cLine) : CallR X (.builtin "min") (rC X.K minF) := by
  intro pins s σ H xs us Q I rx ⟨ex, m, S, ws, w, R, rw, hf, q⟩
  unfold minF at hf
  split at hf
  · obtain ⟨y, rfl, r⟩ := rws1 rw
    obtain ⟨ws', hw, hf⟩ := Option.bind_eq_some_iff.mp hf
    split at hf
    · cases hf
    · rename_i w0 r0
      by_cases c : (w0 :: r0).all isI = true ∨ (w0 :: r0).all isT = true
      · rw [if_pos c] at hf
        cases hf
        obtain ⟨a, vs, rfl, h1, h2⟩ := lstW_ok R r hw
        obtain ⟨its, rv, hl, hz⟩ := I.list h1
        rw [Vals.ref1 rx]
        have hlen : (w0 :: r0).length = its.length := by rw [h2.length, rv.length]
        have cc : Paired ItI (w0 :: r0) its ∨ Paired (ItT X.K ex m H s.heap) (w0 :: r0) its := c.imp (itI_of h2 rv) (itT_of I h2 rv)
        refine PySem.call_min_walkH (PySem.W.iter_listW (A := X.A.in1) (I.ok.hd hc) hl.isList fun s₂ e Wk st hfp hw hk => ?_)
        refine ⟨_, _, _, _, _, _, _, s.heap, (fun i j => ltW ((w0 :: r0).getD i (.v .non)) ((w0 :: r0).getD j (.v .non))), rfl, Wk, st, hfp, by rw [List.size_toArray, ← hlen]; exact Nat.succ_pos _, hw, hk, ?_, fun v s' hP mv => ?_⟩
        · have := it_lt (X := X) (s := s) (A := X.A.in1) (by show X.A.units + 1 < _; exact hu) hlen cc
          intro i j vi vj s' Q E k1 k2 k3 k4
          exact this i j vi vj s' Q E k1 (by simpa using k2) (by simpa using k3) k4
        · obtain ⟨h', tk, rfl, hk'⟩ := PySem.W.moved_old e rfl mv
          have e1 : its.toArray.size - 1 = r0.length := by rw [List.size_toArray, ← hlen]; rfl
          rw [e1] at hP
          obtain ⟨i, hi, ei, ev⟩ := fold_take ltW (.v .non) w0 r0
          rw [ei] at hP
          have hP : its[i]? = some v := by simpa using hP
          obtain ⟨x, hx, rel⟩ := paired_get rv i v hP
          obtain ⟨wz, hwz⟩ : ∃ wz, (w0 :: r0)[i]? = some wz := ⟨_, List.getElem?_eq_getElem (by rw [List.length_cons]; omega)⟩
          obtain ⟨x', hx', rr⟩ := h2.get hwz
          rw [hx] at hx'
          cases hx'
          have : minW w0 r0 = wz := by
            rw [List.getD_eq_getElem?_getD, hwz] at ev
            exact ev.symm
          exact ⟨x, H, I.kept hk', rel, q x H Stp.refl R (by rw [this]; exact rr)⟩
      · rw [if_neg c] at hf; cases hf
  · obtain ⟨y, z, rfl, r, r2⟩ := rws2 rw
    cases hf
    exact call_min2 hc pins s σ H _ us Q I rx ⟨_, _, by rw [rw_int r, rw_int r2], q _ H Stp.refl R int_rw⟩
  · cases hf
theorem max_unique {ns : List Int} {w : Int} {r : List Int} (e : ns = w :: r) {m : Int} (h1 : m ∈ ns) (h2 : ∀ y, y ∈ ns → y ≤ m) : maxW (.v (.int w)) (r.map fun i => W.v (.int i)) = .v (.int m) := by
  subst e
  have key : ∀ (r : List Int) (w : Int), ∃ k, maxW (.v (.int w)) (r.map fun i => W.v (.int i)) = .v (.int k) ∧ (k = w ∨ k ∈ r) ∧ w ≤ k ∧ ∀ y ∈ r, y ≤ k := by
    intro r
    induction r with
    | nil => intro w; exact ⟨w, rfl, .inl rfl, Int.le_refl _, by simp⟩
    | cons z r ih =>
      intro w
      have lt : ltW (.v (.int w)) (.v (.int z)) = decide (w < z) := by
        show HT.lexLt [w] [z] = _
        rw [HT.lexLt_cons]
        by_cases h : w = z
        · rw [if_pos h, h]; simp [HT.lexLt_nil_nil]
        · rw [if_neg h]
      have st : maxW (.v (.int w)) ((z :: r).map fun i => W.v (.int i)) = maxW (.v (.int (if w < z then z else w))) (r.map fun i => W.v (.int i)) := by
        show ((z :: r).map fun i => W.v (.int i)).foldl _ _ = _
        rw [List.map_cons, List.foldl_cons, lt]
        by_cases h : w < z
        · simp only [h, decide_true, if_true]; rfl
        · simp only [h, decide_false, if_false, Bool.false_eq_true]; rfl
      obtain ⟨k, k1, k2, k3, k4⟩ := ih (if w < z then z else w)
      refine ⟨k, by rw [st, k1], ?_, ?_, ?_⟩
      · rcases k2 with k2 | k2
        · by_cases h : w < z
          · rw [if_pos h] at k2; exact .inr (by rw [k2]; exact List.mem_cons_self)
          · rw [if_neg h] at k2; exact .inl k2
        · exact .inr (List.mem_cons_of_mem _ k2)
      · by_cases h : w < z
        · rw [if_pos h] at k3; omega
        · rw [if_neg h] at k3; omega
      · intro y hy
        rcases List.mem_cons.mp hy with e | hy
        · subst e
          by_cases h : w < y
          · rw [if_pos h] at k3; omega
          · rw [if_neg h] at k3; omega
        · exact k4 y hy
  obtain ⟨k, k1, k2, k3, k4⟩ := key r w
  have : k = m := by
    have a1 : k ≤ m := by
      rcases k2 with e | e
      · subst e; exact h2 _ List.mem_cons_self
      · exact h2 _ (List.mem_cons_of_mem _ e)
    have a2 : m ≤ k := by
      rcases List.mem_cons.mp h1 with e | e
      · subst e; exact k3
      · exact k4 _ e
    omega
  rw [k1, this]
theorem isI_ints : ∀ {ws : List W}, ws.all isI = true → ∃ ns : List Int, ws = ns.map fun i => W.v (.int i)
  | [], _ => ⟨[], rfl⟩
  | w :: ws, h => by
    rw [List.all_cons, Bool.and_eq_true] at h
    obtain ⟨ns, e⟩ := isI_ints h.2
    cases w with
    | ref k => cases h.1
    | v d =>
      cases d with
      | int i => exact ⟨i :: ns, by rw [e]; rfl⟩
      | _ => cases h.1
theorem fc_max (hc : X.calm = true) : CallR X (.builtin "max") (rC X.K maxF) := by
  intro pins s σ H xs us Q I rx ⟨ex, m, S, ws, w, R, rw, hf, q⟩
  unfold maxF at hf
  split at hf
  · obtain ⟨y, rfl, r⟩ := rws1 rw
    obtain ⟨ws', hw, hf⟩ := Option.bind_eq_some_iff.mp hf
    split at hf
    · cases hf
    · rename_i w0 r0
      by_cases c : (w0 :: r0).all isI = true
      · rw [if_pos c] at hf
        cases hf
        obtain ⟨a, vs, rfl, h1, h2⟩ := lstW_ok R r hw
        obtain ⟨ns, e⟩ := isI_ints c
        have eds : toDs (w0 :: r0) = some (ns.map D.int) := by
          rw [e, show (fun i => W.v (.int i)) = W.v ∘ D.int from rfl, ← List.map_map]
          exact toDs_map _
        have ev := (h2.toDs eds).ints
        subst ev
        cases ns with
        | nil => cases e
        | cons n ns =>
          refine cr_max hc pins s σ H _ us Q I rx ⟨a, n :: ns, rfl, h1, Nat.succ_pos _, fun k k1 k2 => ?_⟩
          rw [List.map_cons] at e
          cases e
          exact q _ H Stp.refl R (by rw [max_unique rfl k1 k2]; exact int_rw)
      · rw [if_neg c] at hf; cases hf
  · obtain ⟨y, z, rfl, r, r2⟩ := rws2 rw
    cases hf
    exact call_max2 hc pins s σ H _ us Q I rx ⟨_, _, by rw [rw_int r, rw_int r2], q _ H Stp.refl R int_rw⟩
  · cases hf
end

/-! ## isinstance -/
def tyW (S : Sto) : W → String
  | .v .non => "NoneType"
  | .v (.bl _) => "bool"
  | .v (.int _) => "int"
  | .v (.str _) => "str"
  | .v (.tup _ _) => "tuple"
  | .v (.lst _) => "list"
  | .v (.fl _) => "list"
  | .v (.dK _ _) => "dict"
  | .v (.dT _ _) => "dict"
  | .ref k => match S[k]? with
    | some (.lst _) => "list"
    | _ => "dict"
def isTy (a T : String) : Bool := a == T || (a == "bool" && T == "int")
def tyAll : List String := ["NoneType", "bool", "int", "str", "tuple", "list", "dict"]
def xisi (T : String) (a : XE) : XE := fun ρ S => (a ρ S).map fun p => (.v (.bl (isTy (tyW p.2 p.1) T)), p.2)
theorem tyW_mem (S : Sto) (w : W) : tyW S w ∈ tyAll := by
  unfold tyW tyAll
  split
  all_goals try decide
  split <;> decide
section
variable {K : PySem.W.Frag} {ex m : List Addr} {S : Sto} {H : Hp} {w : W} {x : V}
theorem tyW_ok (R : Rel K ex m S H) (r : RW K ex m H w x) : TyX K H x (.type (tyW S w)) := by
  have sqt : ∀ {a vs}, SqT K H a vs → TyX K H (.ref a) (.type "tuple") := fun {a vs} h => by
    rcases h with (h | ⟨o, h⟩) | h
    · exact .base (.tup h)
    · exact .fTuple h
    · obtain ⟨o, its, n, h1, h2, _⟩ := h
      exact .kTuple h1 h2
  cases w with
  | ref k =>
    obtain ⟨a, rfl, hk⟩ := r
    have hk' : k < S.length := by rw [← R.len]; exact (List.getElem?_eq_some_iff.mp hk).1
    obtain ⟨c, hc⟩ : ∃ c, S[k]? = some c := ⟨_, List.getElem?_eq_getElem hk'⟩
    have ok := R.cells k c a hc hk
    have et : tyW S (.ref k) = match some c with
      | some (.lst _) => "list"
      | _ => "dict" := by rw [← hc]; rfl
    rw [et]
    cases c with
    | lst ws => obtain ⟨vs, h, _⟩ := ok; exact .base (.lst h)
    | dK ws => obtain ⟨vs, h, _⟩ := ok; exact .base (.dK h)
    | dT ws => obtain ⟨vs, h, _⟩ := ok; exact .base (.dT h)
  | v d =>
    cases d with
    | non => rw [rw_non r]; exact .base .non
    | bl b => rw [rw_bl r]; exact .base (.bl b)
    | int b => rw [rw_int r]; exact .base (.int b)
    | str b => rw [rw_str r]; exact .base (.str b)
    | tup t ds =>
      obtain ⟨a, vs, rfl, h1, _⟩ := tupW_ok (w := .v (.tup t ds)) r rfl
      exact sqt h1
    | lst ds =>
      have r : RD K (ex ++ m) H (.lst ds) x := r
      rw [RD] at r; obtain ⟨a, vs, rfl, h, _⟩ := r
      exact .base (.lst h)
    | fl ds =>
      have r : RD K (ex ++ m) H (.fl ds) x := r
      rw [RD] at r; obtain ⟨a, vs, rfl, h, _⟩ := r
      rcases h with ⟨o, h⟩ | h
      · exact .base (.frz h)
      · obtain ⟨o, its, n, h1, h2, _⟩ := h
        exact .kList h1 h2
    | dK ks ds =>
      have r : RD K (ex ++ m) H (.dK ks ds) x := r
      rw [RD] at r; obtain ⟨a, vs, rfl, h, _⟩ := r
      exact .base (.dK h)
    | dT ks ds =>
      have r : RD K (ex ++ m) H (.dT ks ds) x := r
      rw [RD] at r; obtain ⟨a, vs, rfl, h, _⟩ := r
      exact .base (.dT h)
variable {X : Cx}
def tyOk (T : String) : Bool := tyAll.all fun a => decide (kitB a T = some (isTy a T))
theorem xe_isi {e : Expr} {T : String} {fa : XE} {p q pos : Pos} {n : Str} (ha : PE X e (tM X.K fa)) (hg : Gl X "isinstance") (hm : X.mg "isinstance" = none) (hg2 : Gl X n) (hm2 : X.mg n = none) (hb : bootBuiltins n = some (.type T)) (hT : tyOk T = true) (hn : n ≠ "__name__" := by decide) (hd : (n == ("__debug__" : Str)) = false := by decide)
    (s1 : starEach [e, .Name n q] X.env = (false, eval e X.env) :: starEach [.Name n q] X.env := by rfl) (s2 : starEach [.Name n q] X.env = (false, eval (.Name n q) X.env) :: starEach [] X.env := by rfl) (hpl : (backTo pos (starEach [.Name n q] X.env)).any (·.1) = false := by rfl) :
    PE X (.Call (.Name "isinstance" p) [e, .Name n q] [] pos) (tM X.K (xisi T fa)) := by
  refine PE.imp (pe_callB call_isi hg hm (show bootBuiltins "isinstance" = some (.builtin "isinstance") by decide +kernel) (pa_cons ha (pa_cons (pe_bltn (v := .ty T) hg2 hm2 hb rfl hn hd) pa_nil s2) s1) (by decide) (by decide) s1 hpl) fun σ H Q ⟨ex, ρ, m, S, w, S', R, E, hf, q⟩ => ?_
  obtain ⟨⟨w1, S1⟩, h1, h2⟩ := Option.map_eq_some_iff.mp hf
  cases h2
  refine ⟨ex, ρ, m, S, w1, S1, R, E, h1, fun v m' H' st R' r => ?_⟩
  refine ⟨v, .ty T, .type (tyW S1 w1), .type T, isTy (tyW S1 w1) T, rfl, .ty T, tyW_ok R' r, kit_ty ?_, q _ m' H' st R' bl_rw⟩
  exact of_decide_eq_true (List.all_eq_true.mp hT _ (tyW_mem S1 w1))
end
end Fy
namespace Fy
open PySem PySem.Spec PyProof.Rows L2

/-! ## dicts made: {}, comprehensions, by their kind (true: keys tuples) -/
def dEmp : Bool → HO
  | true => .dT []
  | false => .dK []
section
variable {X : Cx} {pins : List (Addr × Obj)} {σ : L2.St} {H : Hp} {s : Shared}
theorem dEmp_ok {P : Program} {w : World} (t : Bool) (h : Heap) (hb : sysModules < h.objs.size) : ObjOk P w H (h.push { cls := .type "dict", data := .dict #[] }) h.objs.size (dEmp t) := by
  cases t with
  | true => exact dt_empty h hb
  | false => exact dk_empty h hb
/-- a comprehension's own store -/
theorem dput_by {E : Value → Shared → Prop} {D : Addr} {y v : V} {u r : Value} {H' : Hp} {Q : Unit → Shared → Prop} (hu : X.A.units < cLine) (I : Inv X pins σ H s) (g : DPut H D y v H') (ry : RelV y u) (rv : RelV v r) (h : ∀ s', Inv X pins σ H' s' → Q () s') :
    wpAny (model X.prog X.w) X.A (dictSet D u r) Q E s := by
  rcases g with ⟨kvs, k, e, rfl, hl, rfl⟩ | ⟨kvs, k, b, e, rfl, eb, hl, rfl⟩
  · exact d_dictSet I e hl ry rv h
  · obtain rfl : u = Value.ref b := ry
    obtain ⟨z, hd, xs, rel, dd⟩ := dt_of I.hok e
    have z1 : xs.length ≤ sizeLine := by rw [← Paired.length rel]; exact z
    have z2 : (putK kvs k v).length ≤ sizeLine := by have := length_putK kvs k v; omega
    refine wpAny_dictSet_heap (hsz := z1) (knd := tupleKind (mixKind X.prog X.w)) ?_ (key_of I.hok eb) dd fun h' dd' hs => h _ ?_
    · exact hu
    · obtain ⟨q, es, ep, hq, h2, h3, h4, _, h5⟩ := dd'
      refine d_write I (by rw [e]; trivial) hs ⟨q, hq⟩ ⟨z2, hd, _, (rel.put k eb rv).keeps fun c ys ec => ?_, q, es, ep, hq, h2, h3, h4, h5⟩
      rw [upd_ne (ne_of ec e (fun z => nomatch z))]; exact ec
/-- {k: v for target in iter if ..}: what must hold, turn by turn -/
def tDA (t : Bool) (wi : TI) (g : TG) (tt : TT) (tk tv : TE) (vs : List Nat) : TE := fun σ H Q => wi σ H fun J H1 => ∀ D, H1 D = none → ∃ W : Nat → Nat → Hp → Prop, (∃ n, W 0 n (upd H1 D (dEmp t))) ∧ ∀ i n H, W i n H →
  (J.stop i H ∧ Q (.ref D) H) ∨ (J.go i H ∧ ∃ Nx : Hp → Prop, (∀ H', Nx H' → ∃ n', n' < n ∧ W (i + 1) n' H') ∧ ∀ x H', J.yld i H x H' → g x (wipe σ vs) H' fun σ2 H2 => wipe σ2 vs = wipe σ vs ∧ tt σ2 H2 fun b H3 =>
    if b = true then tk σ2 H3 fun y H4 => tv σ2 H4 fun z H5 => ∃ H6, DPut H5 D y z H6 ∧ Nx H6 else Nx H3)
variable {kx vx tg iter : Expr} {ifs : List Expr} {scope : Scope} {own : List (Str × Nat)} {pos pos' : Pos} {wi : TI} {g : TG} {tt : TT} {tk tv : TE}
/-- the block's pieces, in whatever block comes -/
structure DcOk (X : Cx) (kx vx tg iter : Expr) (ifs : List Expr) (scope : Scope) (own : List (Str × Nat)) (wi : TI) (g : TG) (tt : TT) (tk tv : TE) : Prop where
  calm : X.calm = true
  nd : X.N.Nodup
  room : X.A.units < cLine
  it : PI X tg iter wi
  blk : BlkOk X.N X.env.scope scope own
  tg : ∀ (s : Shared) (H : Hp) (C : Addr) (cl : List (Str × Addr)) (fp : List Addr), PG (X.blk s H scope (compEnvC scope cl C X.env) fp) tg g
  tt : ∀ (s : Shared) (H : Hp) (C : Addr) (cl : List (Str × Addr)) (fp : List Addr), PTs (X.blk s H scope (compEnvC scope cl C X.env) fp) ifs tt
  key : ∀ (s : Shared) (H : Hp) (C : Addr) (cl : List (Str × Addr)) (fp : List Addr), PE (X.blk s H scope (compEnvC scope cl C X.env) fp) kx tk
  val : ∀ (s : Shared) (H : Hp) (C : Addr) (cl : List (Str × Addr)) (fp : List Addr), PE (X.blk s H scope (compEnvC scope cl C X.env) fp) vx tv
  fold : ∀ x, foldedSetIterable iter X.env x = pure x
theorem da_core {t : Bool} {Q : VK} {use : Option (Value → Sem Unit)} {Qf : Value → Shared → Prop} (B : DcOk X kx vx tg iter ifs scope own wi g tt tk tv) (I : Inv X pins σ H s) (h : tDA t wi g tt tk tv (own.map (·.2)) σ H Q)
    (fin : ∀ D C s' m H', Inv X pins σ H' s' → Q (.ref D) H' → s'.heap.Ns C m → FpOk X pins H' C → compPost (model X.prog X.w) X.A X.xe use Qf (.ref D) C (.ok .next) s') :
    wpAny (model X.prog X.w) X.A (comprehension (.DictComp kx vx [⟨tg, iter, ifs, 0⟩] scope pos) scope X.env pos' newDict false (eval iter X.env) use) Qf X.xe s := by
  have cells : ∀ y ∈ scope.names, y.2 = .free → ∃ c, X.env.cells.lookup y.1 = some c := fun y hy e => I.ok.has _ (B.blk.free y hy e)
  refine wpAny_comprehension_free (use := use) rfl B.fold (closure_ok cells) B.blk.kind (fun y hy e => by rw [B.blk.uniq y hy, e]) (thn (B.it.run pins s σ H _ I h) fun xv s1 hx => thn hx fun itv s2 got => ?_)
  obtain ⟨it, fp, tn, J, H2, e, I2, T, st2, f2, q⟩ := got
  subst e
  refine wpAny_newObj_type (newEnv_comp ?_)
  obtain ⟨D, hD⟩ : ∃ D, D = s2.heap.objs.size := ⟨_, rfl⟩
  have fresh : H2 D = none := I2.hok.fresh (Nat.le_of_eq hD.symm)
  obtain ⟨W, ⟨n0, w0⟩, turn⟩ := q D fresh
  rw [← hD]
  obtain ⟨s3, hs3⟩ : ∃ s3 : Shared, s3 = { s2 with heap := s2.heap.push { cls := .type "dict", data := .dict #[] } } := ⟨_, rfl⟩
  have hp3 : s3.heap = s2.heap.push { cls := .type "dict", data := .dict #[] } := by rw [hs3]
  rw [← hs3]
  have kp3 : ∀ b o, s2.heap.get? b = some o → s3.heap.get? b = some o := fun b o e => by rw [hp3]; exact Heap.get?_push_of_some _ e
  have I3 : Inv X pins σ (upd H2 D (dEmp t)) s3 := by
    rw [hs3]
    refine I2.laid (t' := s2.toks) (fun b o e => Heap.get?_push_of_some _ e) (Nat.le_of_eq hD.symm) ?_
    rw [hD]
    exact dEmp_ok t s2.heap I2.big
  have old : ∀ b ∈ fp, b < s2.heap.objs.size := fun b hb => by
    obtain ⟨o, e, _⟩ := T.obj _ _ st2 b hb
    exact Heap.lt_size e
  have f3 : ∀ b ∈ fp, FpOk X pins (upd H2 D (dEmp t)) b ∧ b < s3.heap.objs.size := fun b hb => by
    have hlt := old b hb
    have hne : b ≠ D := by rw [hD]; exact Nat.ne_of_lt hlt
    refine ⟨⟨?_, (f2 b hb).2⟩, by rw [hp3, Heap.size_push]; exact Nat.lt_succ_of_lt hlt⟩
    rw [upd_ne hne]; exact (f2 b hb).1
  have st3 : tn 0 s3.heap := T.keep _ _ _ st2 fun b _ o e => kp3 b o e
  have I4 := block_start I3 B.blk B.nd f3
  obtain ⟨H3, hH3⟩ : ∃ H3, H3 = upd H2 D (dEmp t) := ⟨_, rfl⟩
  rw [← hH3] at I3 I4 w0 f3
  obtain ⟨ce, hce⟩ : ∃ ce, ce = compEnvC scope (cellsFrom (s3.heap.objs.size + 1) scope.names (cloFrom X.env.cells scope.names [])) s3.heap.objs.size X.env := ⟨_, rfl⟩
  have pg := B.tg s3 H3 s3.heap.objs.size (cellsFrom (s3.heap.objs.size + 1) scope.names (cloFrom X.env.cells scope.names [])) fp
  have pt := B.tt s3 H3 s3.heap.objs.size (cellsFrom (s3.heap.objs.size + 1) scope.names (cloFrom X.env.cells scope.names [])) fp
  have pk := B.key s3 H3 s3.heap.objs.size (cellsFrom (s3.heap.objs.size + 1) scope.names (cloFrom X.env.cells scope.names [])) fp
  have pe := B.val s3 H3 s3.heap.objs.size (cellsFrom (s3.heap.objs.size + 1) scope.names (cloFrom X.env.cells scope.names [])) fp
  rw [← hce] at I4 pg pt pk pe
  obtain ⟨s4, hs4⟩ : ∃ s4 : Shared, s4 = { s3 with heap := pushCells (s3.heap.push { cls := .type "dict", data := .dict #[] }) scope.names } := ⟨_, rfl⟩
  show codeAny _ _ (.compStart (.DictComp kx vx [⟨tg, iter, ifs, 0⟩] scope pos) 0 (.ref it) (.ref D) (compEnvC scope (cellsFrom (s3.heap.objs.size + 1) scope.names (cloFrom X.env.cells scope.names [])) s3.heap.objs.size X.env))
    (compPost (model X.prog X.w) X.A X.xe use Qf (.ref D) s3.heap.objs.size) { s3 with heap := pushCells (s3.heap.push { cls := .type "dict", data := .dict #[] }) scope.names }
  rw [← hs4] at I4 ⊢
  rw [← hce]
  have loc : ce.locals = s3.heap.objs.size := by rw [hce]; rfl
  have st4 : tn 0 s4.heap := T.keep _ _ _ st3 fun b _ o e => by rw [hs4]; exact pushCells_keeps _ _ _ _ (Heap.get?_push_of_some _ e)
  have away : ∀ b ∈ fp, H3 b = none := fun b hb => (f3 b hb).1.1
  have pinFp : ∀ {σ' : L2.St} {H' : Hp} {s' : Shared}, Inv (X.blk s3 H3 scope ce fp) [] σ' H' s' → (∀ b ∈ fp, H' b = none) → ∀ b ∈ fp, FpOk (X.blk s3 H3 scope ce fp) [] H' b := fun {σ' H' s'} J' hn b hb =>
    ⟨hn b hb, (J'.ok.exf b hb).1, J'.ok.exfs b hb, .inl hb, fun x c e => (J'.ok.exf b hb).2 x c e, fun p hp => absurd hp (by simp)⟩
  have loop : codeAny (model X.prog X.w) X.A (.compLoop (.DictComp kx vx [⟨tg, iter, ifs, 0⟩] scope pos) 0 (.ref it) (.ref D) ce) (compPost (model X.prog X.w) X.A X.xe use Qf (.ref D) s3.heap.objs.size) s4 := by
    refine compLoop_anyD (fun n s' => ∃ i H', Inv (X.blk s3 H3 scope ce fp) [] (wipe σ (own.map (·.2))) H' s' ∧ tn i s'.heap ∧ (∀ b ∈ fp, H' b = none) ∧ W i n H') ?_ n0 ⟨0, H3, I4, st4, away, w0⟩
    rintro n s5 ⟨i, H5, I5, st5, n5, w5⟩
    rcases turn i n H5 w5 with ⟨stop, qq⟩ | ⟨go, Nx, less, step⟩
    · refine thnF (T.done (X.blk s3 H3 scope ce fp) rfl rfl rfl B.calm i [] s5 _ H5 (fun _ _ => False) I5 (pinFp I5 n5) st5 stop) fun r s6 ⟨hr, I6⟩ => ?_
      subst hr
      have back : Inv X pins σ H5 s6 := I3.call' (ch := fp) I6.os I6.base I6.hok I6.bare fun b hb => ⟨(f3 b hb).1.2.2.2.1, (f3 b hb).1.2.1, (f3 b hb).1.2.2.2.2.1, (f3 b hb).1.2.2.2.2.2⟩
      have nC : H5 s3.heap.objs.size = none := by rw [← loc]; exact I6.free
      obtain ⟨m, hn, _⟩ := I6.loc
      have hn : s6.heap.Ns s3.heap.objs.size m := by rw [← loc]; exact hn
      exact fin D s3.heap.objs.size s6 m H5 back qq hn (I3.fpOk (Nat.le_refl _) nC)
    · refine thnF (T.item (X.blk s3 H3 scope ce fp) rfl rfl rfl B.calm i [] s5 _ H5 (fun _ _ => False) I5 (pinFp I5 n5) st5 go) fun r s6 ⟨u, hr, h6⟩ => ?_
      subst hr
      refine thnF h6 fun _ s7 ⟨x, H7, I7, r7, y7, st7, n7⟩ => ?_
      have P7 := I7.pinned (pinFp I7 n7) (T.obj _ _ st7)
      refine thnF (pg.run _ s7 _ H7 x u _ P7 r7 (step x H7 y7)) fun _ s8 ⟨σ8, H8, I8, hw, q8⟩ => ?_
      refine thnF (pt.run _ s8 σ8 H8 _ I8 q8) fun b s9 ⟨H9, I9, q9⟩ => ?_
      have over : ∀ {s' : Shared} {H' : Hp}, Inv (X.blk s3 H3 scope ce fp) ([] ++ pinsAt fp s7.heap) σ8 H' s' → Nx H' → ∃ n', n' < n ∧ ∃ i H', Inv (X.blk s3 H3 scope ce fp) [] (wipe σ (own.map (·.2))) H' s' ∧ tn i s'.heap ∧ (∀ b ∈ fp, H' b = none) ∧ W i n' H' := fun {s' H'} J' nx => by
        obtain ⟨n', hlt, w'⟩ := less H' nx
        have pinned : ∀ b ∈ fp, ∀ o, s7.heap.get? b = some o → s'.heap.get? b = some o ∧ H' b = none := fun b hb o e => by
          have z := J'.pin (b, o) (List.mem_append_right _ (List.mem_append_right _ (mem_pinsAt hb e)))
          exact ⟨z.1, z.2.1⟩
        have len : (wipe σ (own.map (·.2))).length = σ8.length := by rw [← hw, wipe_length]
        refine ⟨n', hlt, i + 1, H', (J'.unpinned (pins := [])).weak len (fun j v e => (wipe_some (by rw [hw]; exact e)).1), T.keep _ _ _ st7 fun b hb o e => (pinned b hb o e).1, fun b hb => ?_, w'⟩
        obtain ⟨o, e, _⟩ := T.obj _ _ st7 b hb
        exact (pinned b hb o e).2
      cases b with
      | false =>
        simp only [Bool.false_eq_true, if_false] at q9 ⊢
        exact over I9 q9
      | true =>
        simp only [if_true] at q9 ⊢
        refine thnF (pk.run _ s9 σ8 H9 _ I9 q9) fun z s10 ⟨yk, H10, I10, r10, q10⟩ => ?_
        refine thnF (pe.run _ s10 σ8 H10 _ I10 q10) fun z2 s11 ⟨yv, H11, I11, r11, H12, put, nx⟩ => ?_
        exact dput_by (X := X.blk s3 H3 scope ce fp) B.room I11 put r10 r11 fun s12 I12 => over I12 nx
  exact codeAny_compStart_dict loop (T.self X.A 0 _ _ _ st4 loop)
theorem pe_da {t : Bool} (B : DcOk X kx vx tg iter ifs scope own wi g tt tk tv) : PE X (.DictComp kx vx [⟨tg, iter, ifs, 0⟩] scope pos) (tDA t wi g tt tk tv (own.map (·.2))) := by
  refine ⟨fun pins s σ H Q I h => ?_⟩
  rw [arm_eval_DictComp]
  refine da_core B I h fun D C s' m H' I' q hn f => ⟨m, hn, fun h'' sb => ?_⟩
  obtain ⟨f0, f1, f2, f3, f4, f5⟩ := f
  exact ⟨.ref D, H', I'.turned (t' := s'.toks) (fun b o hb e => (sb.2 b hb).trans e) f0 f1 f3 f4 f5, rfl, q⟩
theorem swd_true {gs : List Comprehension} {pos py : Pos} {y : Str} {l : Nat} {env : Env} (hk : env.scope.kind = .function) (hy : env.scope.names.lookup y = some .local) (hl : (py.line == pos.line) = true)
    (ha : (scope.names.any fun (n, k) => n == y && (k == .local || k == .cell)) = false) : swapsWith (.DictComp kx vx gs scope pos) (some (.Name y py)) l env = pure true := by
  have k1 : env.kindOf y = some .local := hy
  have k2 : env.blockKind = .function := by unfold Env.blockKind; rw [hk]; rfl
  unfold swapsWith
  simp only [k1, k2, ha, Expr.pos, hl]
  rfl
theorem ps_setDa {t : Bool} {i : Nat} {y : Str} {py spos : Pos} (B : DcOk X kx vx tg iter ifs scope own wi g tt tk tv) (hy : X.N[i]? = some y) (hyl : X.env.scope.names.lookup y = some .local)
    (hsw : swapsWith (.DictComp kx vx [⟨tg, iter, ifs, 0⟩] scope pos) (some (.Name y py)) spos.line X.env = pure true) : PS X (.Assign [.Name y py] (.DictComp kx vx [⟨tg, iter, ifs, 0⟩] scope pos) spos) (tAsg (tDA t wi g tt tk tv (own.map (·.2))) (gName i)) := by
  refine ⟨fun pins s σ H D I h => ?_⟩
  rw [exec_Assign_Name_used _ _ _ _ hsw]
  refine wpAny_bind (wpAny_standAt (wpAny_bind ?_))
  show wpAny _ X.A (do let _ ← comprehension (.DictComp kx vx [⟨tg, iter, ifs, 0⟩] scope pos) scope X.env (firstIterPos [⟨tg, iter, ifs, 0⟩] pos) newDict false (eval iter X.env) (some (assign (.Name y py) X.env))) _ _ s
  have h : tDA t wi g tt tk tv (own.map (·.2)) σ H (fun x H1 => gName i x σ H1 D.nx) := h
  refine wpAny_bind (thn (da_core (Qf := fun _ s' => SP X pins D .next s') B I h fun L C s' m H' I' q hn f => ?_) fun _ s' hq => wpAny_pure (wpAny_pure hq))
  show wpAny _ _ (assign (.Name y py) X.env (.ref L)) _ _ _
  refine wpAny_assign_Name (store_ok2 (v := V.ref L) I' B.nd hy (.inl hyl) rfl (fun s2 I2 ⟨a, sb, ha⟩ => ?_) (.inr hyl))
  obtain ⟨f0, f1, f2, f3, f4, f5⟩ := f
  have hne : C ≠ a := by
    rcases ha with z | z
    · rw [z]; exact f1
    · exact fun e => f4 y a z e.symm
  exact ⟨m, hn.sameBut sb hne, fun h3 sb3 => ⟨_, H', I2.turned (t' := s2.toks) (fun b o hb e => (sb3.2 b hb).trans e) f0 f1 f3 f4 f5, q⟩⟩
end

/-! ## the same, by value -/
section
variable {X : Cx} {pos : Pos}
def xdnK : XE := fun _ S => some (.ref S.length, S ++ [.dK []])
def xdnT : XE := fun _ S => some (.ref S.length, S ++ [.dT []])
theorem cell_ref {K : PySem.W.Frag} {ex m : List Addr} {H : Hp} {S : Sto} {p : Addr} (h : m.length = S.length) : RW K ex (m ++ [p]) H (.ref S.length) (.ref p) := by
  refine ⟨p, rfl, ?_⟩
  rw [← h, List.getElem?_append_right (Nat.le_refl _)]
  simp
theorem xe_dnK : PE X (.Dict [] [] pos) (tM X.K xdnK) := by
  refine PE.imp pe_dnewK fun σ H Q ⟨ex, ρ, m, S, w, S', R, E, hf, q⟩ => ?_
  have hf : some (W.ref S.length, S ++ [C.dK []]) = some (w, S') := hf
  cases hf
  intro p hp
  obtain ⟨R2, st⟩ := R.cell (c := .dK []) (o := .dK []) hp trivial fun st => ⟨[], upd_same, .nil⟩
  exact q _ _ _ st R2 (cell_ref R.len)
theorem xe_dnT : PE X (.Dict [] [] pos) (tM X.K xdnT) := by
  refine PE.imp pe_dnewT fun σ H Q ⟨ex, ρ, m, S, w, S', R, E, hf, q⟩ => ?_
  have hf : some (W.ref S.length, S ++ [C.dT []]) = some (w, S') := hf
  cases hf
  intro p hp
  obtain ⟨R2, st⟩ := R.cell (c := .dT []) (o := .dT []) hp trivial fun st => ⟨[], upd_same, .nil⟩
  exact q _ _ _ st R2 (cell_ref R.len)
/-- what a dict comprehension gathers: a dict with keys ints or texts, one with tuples -/
inductive Gt where
  | k (kvs : List (Key × W))
  | t (kvs : List (List Key × W))
def Gt.emp : Bool → Gt
  | true => .t []
  | false => .k []
def Gt.put (d : Gt) (y z : W) : Option Gt := match d with
  | .k kvs => if kvs.length < LIM then (keyK y).map fun k => .k (dput kvs k z) else none
  | .t kvs => if kvs.length < LIM then (keyT y).map fun k => .t (dput kvs k z) else none
def Gt.C : Gt → C
  | .k kvs => .dK kvs
  | .t kvs => .dT kvs
def Gt.D : Gt → Option D
  | .k kvs => (toDs (kvs.map (·.2))).map fun ds => .dK (kvs.map (·.1)) ds
  | .t kvs => (toDs (kvs.map (·.2))).map fun ds => .dT (kvs.map (·.1)) ds
/-- a dict in a walk, made; D what stands of it -/
def GtH (K : PySem.W.Frag) (ex m : List Addr) (H : Hp) : Gt → HO → Prop
  | .k kvs, o => ∃ xs, o = .dK xs ∧ Paired (fun p q => p.1 = q.1 ∧ RW K ex m H p.2 q.2) kvs xs
  | .t kvs, o => ∃ xs, o = .dT xs ∧ Paired (fun p q => p.1 = q.1 ∧ RW K ex m H p.2 q.2) kvs xs
theorem GtH.mut {K : PySem.W.Frag} {ex m : List Addr} {H : Hp} {d : Gt} {o : HO} (h : GtH K ex m H d o) : Mut (some o) := by
  cases d with
  | k kvs => obtain ⟨xs, rfl, _⟩ := h; trivial
  | t kvs => obtain ⟨xs, rfl, _⟩ := h; trivial
theorem GtH.map {K : PySem.W.Frag} {ex ex' m m' : List Addr} {H H' : Hp} {d : Gt} {o : HO} (h : GtH K ex m H d o) (f : ∀ w v, RW K ex m H w v → RW K ex' m' H' w v) : GtH K ex' m' H' d o := by
  cases d with
  | k kvs => obtain ⟨xs, e, r⟩ := h; exact ⟨xs, e, Paired.mapP r fun a b z => ⟨z.1, f _ _ z.2⟩⟩
  | t kvs => obtain ⟨xs, e, r⟩ := h; exact ⟨xs, e, Paired.mapP r fun a b z => ⟨z.1, f _ _ z.2⟩⟩
def dcTurn (vs : List Nat) (g : XG) (t : XT) (k e : XE) (ρ : Rho) : W → Sto → Option (Option (W × W) × Sto) := fun w S => (g w (wipeR ρ vs) S).bind fun p => (t p.1 p.2).bind fun b => if b.1 = true then (k p.1 b.2).bind fun y => (e p.1 y.2).map fun z => (some (y.1, z.1), z.2) else some (none, b.2)
open Classical in
noncomputable def compD (ok : Sto → Prop) (turn : W → Sto → Option (Option (W × W) × Sto)) : List W → Gt → Sto → Option (Gt × Sto)
  | [], d, S => if ok S then some (d, S) else none
  | w :: ws, d, S => if ok S then (turn w S).bind fun p => match p.1 with
      | none => compD ok turn ws d p.2
      | some y => (d.put y.1 y.2).bind fun d' => compD ok turn ws d' p.2
    else none
noncomputable def xdc (tt : Bool) (it : XI) (vs : List Nat) (g : XG) (t : XT) (k e : XE) : Rho → Sto → Option (Gt × Sto) := fun ρ S => (it ρ S).bind fun p => compD p.2.1 (dcTurn vs g t k e ρ) p.1 (Gt.emp tt) p.2.2
noncomputable def xdcV (tt : Bool) (it : XI) (vs : List Nat) (g : XG) (t : XT) (k e : XE) : XE := fun ρ S => (xdc tt it vs g t k e ρ S).bind fun p => p.1.D.map fun d => (.v d, p.2)
noncomputable def xdcC (tt : Bool) (it : XI) (vs : List Nat) (g : XG) (t : XT) (k e : XE) : XE := fun ρ S => (xdc tt it vs g t k e ρ S).map fun p => (.ref p.2.length, p.2 ++ [p.1.C])
mutual
theorem RD.stripD {K : PySem.W.Frag} {X : List Addr} {H : Hp} {p : Addr} {o : HO} (hp : H p = some o) (mu : Mut (some o)) : ∀ (d : D) (v : V), RD K (p :: X) H d v → RD K X (strip H p) d v
  | .non, v, h => by rw [RD] at h ⊢; exact h
  | .bl b, v, h => by rw [RD] at h ⊢; exact h
  | .int i, v, h => by rw [RD] at h ⊢; exact h
  | .str x, v, h => by rw [RD] at h ⊢; exact h
  | .tup t ds, v, h => by
    rw [RD] at h ⊢
    obtain ⟨a, vs, e, h1, h2⟩ := h
    refine ⟨a, vs, e, ?_, RDs.stripD hp mu ds vs h2⟩
    cases t with
    | true =>
      have h1 : H a = some (.tup vs) := h1
      show Fy.strip H p a = _
      rw [strip_ne (fun z => by subst z; rw [hp] at h1; cases h1; exact mu)]; exact h1
    | false =>
      have h1 : SqT K H a vs := h1
      show SqT K _ a vs
      rcases h1 with (h | ⟨u, h⟩) | h
      · exact .inl (.inl (by rw [strip_ne (fun z => by subst z; rw [hp] at h; cases h; exact mu)]; exact h))
      · exact .inl (.inr ⟨u, by rw [strip_ne (fun z => by subst z; rw [hp] at h; cases h; exact mu)]; exact h⟩)
      · exact .inr h
  | .lst ds, v, h => by
    rw [RD] at h ⊢
    obtain ⟨a, vs, e, h1, h2, h3⟩ := h
    simp only [List.mem_cons, not_or] at h2
    exact ⟨a, vs, e, by rw [strip_ne h2.1]; exact h1, h2.2, RDs.stripD hp mu ds vs h3⟩
  | .fl ds, v, h => by
    rw [RD] at h ⊢
    obtain ⟨a, vs, e, h1, h2⟩ := h
    refine ⟨a, vs, e, ?_, RDs.stripD hp mu ds vs h2⟩
    rcases h1 with ⟨u, h⟩ | h
    · exact .inl ⟨u, by rw [strip_ne (fun z => by subst z; rw [hp] at h; cases h; exact mu)]; exact h⟩
    · exact .inr h
  | .dK ks ds, v, h => by
    rw [RD] at h ⊢
    obtain ⟨a, vs, e, h1, h2, hl, h3⟩ := h
    simp only [List.mem_cons, not_or] at h2
    exact ⟨a, vs, e, by rw [strip_ne h2.1]; exact h1, h2.2, hl, RDs.stripD hp mu ds vs h3⟩
  | .dT ks ds, v, h => by
    rw [RD] at h ⊢
    obtain ⟨a, vs, e, h1, h2, hl, h3⟩ := h
    simp only [List.mem_cons, not_or] at h2
    exact ⟨a, vs, e, by rw [strip_ne h2.1]; exact h1, h2.2, hl, RDs.stripD hp mu ds vs h3⟩
theorem RDs.stripD {K : PySem.W.Frag} {X : List Addr} {H : Hp} {p : Addr} {o : HO} (hp : H p = some o) (mu : Mut (some o)) : ∀ (ds : List D) (vs : List V), RDs K (p :: X) H ds vs → RDs K X (strip H p) ds vs
  | [], vs, h => by rw [RDs] at h ⊢; exact h
  | d :: ds, vs, h => by
    rw [RDs] at h ⊢
    obtain ⟨x, xs, e, h1, h2⟩ := h
    exact ⟨x, xs, e, RD.stripD hp mu d x h1, RDs.stripD hp mu ds xs h2⟩
end
theorem RW.stripD {K : PySem.W.Frag} {ex m : List Addr} {H : Hp} {p : Addr} {o : HO} (hp : H p = some o) (mu : Mut (some o)) : ∀ (w : W) (v : V), RW K (p :: ex) m H w v → RW K ex m (Fy.strip H p) w v
  | .v d, v, r => RD.stripD hp mu d v r
  | .ref k, v, r => r
theorem CellOk.stripD {K : PySem.W.Frag} {ex m : List Addr} {H : Hp} {p : Addr} {o : HO} (hp : H p = some o) (mu : Mut (some o)) {a : Addr} (ne : a ≠ p) : ∀ {c : C}, CellOk K (p :: ex) m H a c → CellOk K ex m (Fy.strip H p) a c
  | .lst ws, ⟨vs, e, r⟩ => ⟨vs, by rw [strip_ne ne]; exact e, Paired.mapP r (RW.stripD hp mu)⟩
  | .dK kvs, ⟨xs, e, r⟩ => ⟨xs, by rw [strip_ne ne]; exact e, Paired.mapP r fun a b z => ⟨z.1, RW.stripD hp mu _ _ z.2⟩⟩
  | .dT kvs, ⟨xs, e, r⟩ => ⟨xs, by rw [strip_ne ne]; exact e, Paired.mapP r fun a b z => ⟨z.1, RW.stripD hp mu _ _ z.2⟩⟩
theorem Rel.stripD {K : PySem.W.Frag} {ex m : List Addr} {S : Sto} {H : Hp} {p : Addr} {o : HO} (r : Rel K (p :: ex) m S H) (nx : p ∉ ex) (hp : H p = some o) (mu : Mut (some o)) : Rel K ex m S (Fy.strip H p) := by
  have nm : ∀ a, a ∈ m → a ≠ p := fun a h z => r.kd.disj a h (by rw [z]; exact List.mem_cons_self)
  refine ⟨r.len, r.nd, ⟨fun a h => ?_, fun a h z => r.kd.disj a h (List.mem_cons_of_mem _ z), fun a h => ?_⟩, fun k c a h1 h2 => (r.cells k c a h1 h2).stripD hp mu (nm a (List.mem_of_getElem? h2))⟩
  · rw [strip_ne (nm a h)]; exact r.kd.cell a h
  · rw [strip_ne (fun z => nx (by rw [← z]; exact h))]; exact r.kd.fore a (List.mem_cons_of_mem _ h)
theorem put_ok {K : PySem.W.Frag} {ex m : List Addr} {H : Hp} {d d' : Gt} {o : HO} {D : Addr} {y z : V} {wy wz : W} (hD : H D = some o) (g : GtH K ex m H d o) (ry : RW K (D :: ex) m H wy y) (rz : RW K ex m H wz z) (h : d.put wy wz = some d') :
    ∃ o', DPut H D y z (upd H D o') ∧ GtH K ex m H d' o' ∧ Mut (some o') := by
  cases d with
  | k kvs =>
    have h : (if kvs.length < LIM then (keyK wy).map fun k => Gt.k (dput kvs k wz) else none) = some d' := h
    by_cases c : kvs.length < LIM
    · rw [if_pos c] at h
      obtain ⟨k, h1, h2⟩ := Option.map_eq_some_iff.mp h
      subst h2
      obtain ⟨xs, rfl, r⟩ := g
      refine ⟨.dK (putK xs k z), ?_, ⟨_, rfl, dput_rel (G := RW K ex m H) k rz r⟩, trivial⟩
      rw [keyK_ok ry h1]
      exact DPut.k hD (by rw [← show kvs.length = xs.length from Paired.length r]; exact Nat.lt_trans c lim_lt)
    · rw [if_neg c] at h; cases h
  | t kvs =>
    have h : (if kvs.length < LIM then (keyT wy).map fun k => Gt.t (dput kvs k wz) else none) = some d' := h
    by_cases c : kvs.length < LIM
    · rw [if_pos c] at h
      obtain ⟨k, h1, h2⟩ := Option.map_eq_some_iff.mp h
      subst h2
      obtain ⟨xs, rfl, r⟩ := g
      obtain ⟨b, eb, hb⟩ := keyT_ok ry h1
      refine ⟨.dT (putK xs k z), ?_, ⟨_, rfl, dput_rel (G := RW K ex m H) k rz r⟩, trivial⟩
      rw [eb]
      exact DPut.t hD hb (by rw [← show kvs.length = xs.length from Paired.length r]; exact Nat.lt_trans c lim_lt)
    · rw [if_neg c] at h; cases h
/-- a new dict comes, barred from what is known -/
def tMD (K : PySem.W.Frag) (f : Rho → Sto → Option (Gt × Sto)) : TE := fun σ H Q => ∃ ex ρ m S d S', Rel K ex m S H ∧ RE K ex m H ρ σ ∧ f ρ S = some (d, S') ∧
  ∀ p o m' H', Stp m H m' H' → Rel K (p :: ex) m' S' H' → H p = none → H' p = some o → GtH K (p :: ex) m' H' d o → Q (.ref p) H'
theorem dc_core1 {K : PySem.W.Frag} {tt : Bool} {it : XI} {is vs : List Nat} {g : XG} {t : XT} {k e : XE} {σ : L2.St} {H : Hp} {Q : VK} (hv : ∀ i, i ∈ is → i ∈ vs) (h : tMD K (xdc tt it vs g t k e) σ H Q) : tDA tt (tMI K it) (tMG K is g) (tMT K t) (tM K k) (tM K e) vs σ H Q := by
  obtain ⟨ex, ρ, m, S, d, S', R, E, hf, q⟩ := h
  obtain ⟨⟨ws, ok, S1⟩, h1, h2⟩ := Option.bind_eq_some_iff.mp hf
  have h2 : compD ok (dcTurn vs g t k e ρ) ws (Gt.emp tt) S1 = some (d, S') := h2
  refine ⟨ex, ρ, m, S, ws, ok, S1, R, E, h1, fun J m1 H1 st1 R1 wk D hD => ?_⟩
  obtain ⟨fD, nD⟩ := st1.fresh R.kd R1 hD
  have nDx : D ∉ ex := fun z => nD (List.mem_append_left _ z)
  refine ⟨fun i n H => n = ws.length - i ∧ i ≤ ws.length ∧ ∃ m S H0 o d1, H = upd H0 D o ∧ H0 D = none ∧ Rel K ex m S H0 ∧ Stp m1 H1 m H0 ∧ GtH K ex m H0 d1 o ∧ compD ok (dcTurn vs g t k e ρ) (ws.drop i) d1 S = some (d, S'),
    ⟨ws.length, by simp, Nat.zero_le _, m1, S1, H1, _, _, rfl, hD, R1, Stp.refl, ?_, by simpa using h2⟩, ?_⟩
  · cases tt with
    | true => exact ⟨[], rfl, .nil⟩
    | false => exact ⟨[], rfl, .nil⟩
  rintro i n H3 ⟨rfl, hi, m3, S3, H0, o, d1, rfl, hD0, R3, st3, gt, h3⟩
  obtain ⟨R4, st4, mo⟩ := R3.laidF (o := o) hD0 gt.mut
  have ext : Ext K ex m1 H1 (D :: ex) m3 (upd H0 D o) := by
    refine ⟨fun w v r => mo w v (RW.mono R1.kd st3 w v r), fun a o' ha na => ?_, (Ext.of (K := K) (ex := ex) R1.kd st3).cell⟩
    rw [upd_ne (ne_of_none ha hD)]
    exact st3.keep a o' ha na
  have nD3 : D ∉ m3 := fun z => by
    have := R3.kd.cell D z
    rw [hD0] at this; exact this
  by_cases hlt : i < ws.length
  · obtain ⟨w, hw⟩ : ∃ w, ws[i]? = some w := ⟨ws[i], List.getElem?_eq_getElem hlt⟩
    have ew : ws.drop i = w :: ws.drop (i + 1) := by
      obtain ⟨hl, e⟩ := List.getElem?_eq_some_iff.mp hw
      rw [← e]
      exact List.drop_eq_getElem_cons hl
    rw [ew, compD] at h3
    by_cases co : ok S3
    · rw [if_pos co] at h3
      obtain ⟨⟨o5, S5⟩, h4, h5⟩ := Option.bind_eq_some_iff.mp h3
      obtain ⟨⟨ρ6, S6⟩, h6, h7⟩ := Option.bind_eq_some_iff.mp h4
      obtain ⟨⟨b, S7⟩, h8, h9⟩ := Option.bind_eq_some_iff.mp h7
      obtain ⟨go, yl⟩ := wk.go (D :: ex) m3 S3 _ R4 ext co i w hw
      refine .inr ⟨go, fun H => ∃ m S H0 o d1, H = upd H0 D o ∧ H0 D = none ∧ Rel K ex m S H0 ∧ Stp m1 H1 m H0 ∧ GtH K ex m H0 d1 o ∧ compD ok (dcTurn vs g t k e ρ) (ws.drop (i + 1)) d1 S = some (d, S'), fun H' z => ⟨ws.length - (i + 1), by omega, rfl, hlt, z⟩, fun x H5 y => ?_⟩
      obtain ⟨st5, R5, r5⟩ := yl x H5 y
      have E5 : RE K (D :: ex) m3 H5 (wipeR ρ vs) (wipe σ vs) := (((E.mono R.kd (st1.trans st3)).more mo).mono R4.kd st5).wipe vs
      refine ⟨D :: ex, wipeR ρ vs, m3, S3, w, ρ6, S6, R5, E5, r5, h6, fun σ6 m6 H6 st6 R6 E6 s6 => ⟨s6.wipe hv, ?_⟩⟩
      refine ⟨D :: ex, ρ6, m6, S6, b, S7, R6, E6, h8, fun m7 H7 st7 R7 => ?_⟩
      have st37 := (st5.trans st6).trans st7
      have hD7 : H7 D = some o := st37.keep D _ upd_same nD3
      have h9 : (if b = true then (k ρ6 S7).bind fun y => (e ρ6 y.2).map fun z => ((some (y.1, z.1) : Option (W × W)), z.2) else some (none, S7)) = some (o5, S5) := h9
      cases b with
      | false =>
        rw [if_neg Bool.false_ne_true] at h9
        cases h9
        simp only []
        rw [if_neg Bool.false_ne_true]
        refine ⟨m7, _, Fy.strip H7 D, o, d1, (strip_upd hD7).symm, strip_same, R7.stripD nDx hD7 gt.mut, st3.trans (st37.strip hD0), gt.map fun w v r => RW.mono R3.kd (st37.strip hD0) w v r, h5⟩
      | true =>
        rw [if_pos rfl] at h9
        simp only []
        rw [if_pos trivial]
        obtain ⟨⟨y8, S8⟩, h10, h11⟩ := Option.bind_eq_some_iff.mp h9
        obtain ⟨⟨z9, S9⟩, h12, h13⟩ := Option.map_eq_some_iff.mp h11
        cases h13
        obtain ⟨d2, h14, h15⟩ := Option.bind_eq_some_iff.mp h5
        refine ⟨D :: ex, ρ6, m7, S7, y8, S8, R7, E6.mono R6.kd st7, h10, fun v m8 H8 st8 R8 r8 => ?_⟩
        refine ⟨D :: ex, ρ6, m8, S8, z9, S9, R8, (E6.mono R6.kd st7).mono R7.kd st8, h12, fun u m9 H9 st9 R9 r9 => ?_⟩
        have st39 := (st37.trans st8).trans st9
        have hD9 : H9 D = some o := st39.keep D _ upd_same nD3
        have gt9 : GtH K (D :: ex) m9 H9 d1 o := gt.map fun w v r => RW.mono R4.kd st39 w v (mo w v r)
        have ry : RW K (D :: D :: ex) m9 H9 y8 v := by
          have r0 := RW.mono R8.kd st9 _ _ r8
          cases y8 with
          | ref j => exact r0
          | v dd => exact RD.less (fun a z => by simp only [List.cons_append, List.mem_cons] at z ⊢; rcases z with z | z | z; exact .inl z; exact .inl z; exact .inr z) dd v r0
        obtain ⟨o', p1, p2, p3⟩ := put_ok hD9 gt9 ry r9 h14
        refine ⟨_, p1, m9, _, Fy.strip H9 D, o', d2, ?_, strip_same, R9.stripD nDx hD9 gt.mut, st3.trans (st39.strip hD0), p2.map fun w v r => RW.stripD hD9 gt.mut w v r, h15⟩
        conv => lhs; rw [← strip_upd hD9, upd_upd]
    · rw [if_neg co] at h3; cases h3
  · have ew : ws.drop i = [] := List.drop_eq_nil_of_le (by omega)
    rw [ew, compD] at h3
    by_cases co : ok S3
    · rw [if_pos co] at h3
      cases h3
      refine .inl ⟨wk.stop (D :: ex) m3 _ _ R4 ext co i (by omega), ?_⟩
      have st13 : Stp m1 H1 m3 (upd H0 D o) := st3.trans st4
      exact q D o m3 _ (st1.trans st13) R4 fD upd_same (gt.map mo)
    · rw [if_neg co] at h3; cases h3
theorem tMD_V {K : PySem.W.Frag} {tt : Bool} {it : XI} {vs : List Nat} {g : XG} {t : XT} {k e : XE} {σ : L2.St} {H : Hp} {Q : VK} (h : tM K (xdcV tt it vs g t k e) σ H Q) : tMD K (xdc tt it vs g t k e) σ H Q := by
  obtain ⟨ex, ρ, m, S, w, S', R, E, hf, q⟩ := h
  obtain ⟨⟨d, S1⟩, h1, h2⟩ := Option.bind_eq_some_iff.mp hf
  obtain ⟨dd, h3, h4⟩ := Option.map_eq_some_iff.mp h2
  cases h4
  refine ⟨ex, ρ, m, S, d, S1, R, E, h1, fun p o m' H' st R' f1 f2 gt => ?_⟩
  have np : p ∉ ex ++ m' := fun z => (List.mem_append.mp z).elim (R.kd.newF f1) fun z => R'.kd.disj p z List.mem_cons_self
  refine q _ m' H' st R'.less ?_
  cases d with
  | k kvs =>
    obtain ⟨ds, h5, h6⟩ := Option.map_eq_some_iff.mp h3
    subst h6
    obtain ⟨xs, rfl, r⟩ := gt
    obtain ⟨p1, p2, p3⟩ := pair_vals r
    show RD K (ex ++ m') H' (.dK _ ds) _
    rw [RD]
    refine ⟨p, xs.map (·.2), rfl, by rw [← p2]; exact f2, np, p3, RDs.less (fun a z => ?_) _ _ (p1.toDs h5)⟩
    exact List.mem_cons_of_mem _ z
  | t kvs =>
    obtain ⟨ds, h5, h6⟩ := Option.map_eq_some_iff.mp h3
    subst h6
    obtain ⟨xs, rfl, r⟩ := gt
    obtain ⟨p1, p2, p3⟩ := pair_vals r
    show RD K (ex ++ m') H' (.dT _ ds) _
    rw [RD]
    refine ⟨p, xs.map (·.2), rfl, by rw [← p2]; exact f2, np, p3, RDs.less (fun a z => ?_) _ _ (p1.toDs h5)⟩
    exact List.mem_cons_of_mem _ z
theorem tMD_C {K : PySem.W.Frag} {tt : Bool} {it : XI} {vs : List Nat} {g : XG} {t : XT} {k e : XE} {σ : L2.St} {H : Hp} {Q : VK} (h : tM K (xdcC tt it vs g t k e) σ H Q) : tMD K (xdc tt it vs g t k e) σ H Q := by
  obtain ⟨ex, ρ, m, S, w, S', R, E, hf, q⟩ := h
  obtain ⟨⟨d, S1⟩, h1, h2⟩ := Option.map_eq_some_iff.mp hf
  cases h2
  refine ⟨ex, ρ, m, S, d, S1, R, E, h1, fun p o m' H' st R' f1 f2 gt => ?_⟩
  have ok : CellOk K (p :: ex) m' H' p d.C := by
    cases d with
    | k kvs => obtain ⟨xs, rfl, r⟩ := gt; exact ⟨xs, f2, r⟩
    | t kvs => obtain ⟨xs, rfl, r⟩ := gt; exact ⟨xs, f2, r⟩
  obtain ⟨R2, st2⟩ := R'.toCel (R.kd.newF f1) st f1 ok
  exact q _ _ H' st2 R2 (cell_ref R'.len)
variable {kx vx tg iter : Expr} {ifs : List Expr} {scope : Scope} {own : List (Str × Nat)} {fi : XI} {is : List Nat} {g : XG} {t : XT} {fk fe : XE}
theorem xe_dcV (tt : Bool) (B : DcOk X kx vx tg iter ifs scope own (tMI X.K fi) (tMG X.K is g) (tMT X.K t) (tM X.K fk) (tM X.K fe)) (hv : ∀ i, i ∈ is → i ∈ own.map (·.2) := by decide) : PE X (.DictComp kx vx [⟨tg, iter, ifs, 0⟩] scope pos) (tM X.K (xdcV tt fi (own.map (·.2)) g t fk fe)) :=
  PE.imp (pe_da (t := tt) B) fun σ H Q h => dc_core1 hv (tMD_V h)
theorem xe_dcC (tt : Bool) (B : DcOk X kx vx tg iter ifs scope own (tMI X.K fi) (tMG X.K is g) (tMT X.K t) (tM X.K fk) (tM X.K fe)) (hv : ∀ i, i ∈ is → i ∈ own.map (·.2) := by decide) : PE X (.DictComp kx vx [⟨tg, iter, ifs, 0⟩] scope pos) (tM X.K (xdcC tt fi (own.map (·.2)) g t fk fe)) :=
  PE.imp (pe_da (t := tt) B) fun σ H Q h => dc_core1 hv (tMD_C h)
theorem tasg_of {K : PySem.W.Frag} {i : Nat} {f : XE} {D : Ends} {σ : L2.St} {H : Hp} (h : tMS K (xasg i f) D σ H) : tM K f σ H fun x H1 => gName i x σ H1 D.nx := by
  obtain ⟨ex, ρ, m, S, fl, ρ', S', R, E, hf, q⟩ := h
  obtain ⟨⟨w1, S1⟩, h1, h2⟩ := Option.map_eq_some_iff.mp hf
  cases h2
  exact ⟨ex, ρ, m, S, w1, S1, R, E, h1, fun v m' H' st R' r => q _ m' H' st R' ((E.mono R.kd st).set i r)⟩
theorem xs_setDcV (tt : Bool) {i : Nat} {y : Str} {py spos : Pos} (B : DcOk X kx vx tg iter ifs scope own (tMI X.K fi) (tMG X.K is g) (tMT X.K t) (tM X.K fk) (tM X.K fe)) (hy : X.N[i]? = some y) (hyl : X.env.scope.names.lookup y = some .local)
    (hsw : swapsWith (.DictComp kx vx [⟨tg, iter, ifs, 0⟩] scope pos) (some (.Name y py)) spos.line X.env = pure true) (hv : ∀ i, i ∈ is → i ∈ own.map (·.2) := by decide) : PS X (.Assign [.Name y py] (.DictComp kx vx [⟨tg, iter, ifs, 0⟩] scope pos) spos) (tMS X.K (xasg i (xdcV tt fi (own.map (·.2)) g t fk fe))) :=
  PS.imp (ps_setDa (t := tt) B hy hyl hsw) fun D σ H h => dc_core1 hv (tMD_V (tasg_of h))
theorem xs_setDcC (tt : Bool) {i : Nat} {y : Str} {py spos : Pos} (B : DcOk X kx vx tg iter ifs scope own (tMI X.K fi) (tMG X.K is g) (tMT X.K t) (tM X.K fk) (tM X.K fe)) (hy : X.N[i]? = some y) (hyl : X.env.scope.names.lookup y = some .local)
    (hsw : swapsWith (.DictComp kx vx [⟨tg, iter, ifs, 0⟩] scope pos) (some (.Name y py)) spos.line X.env = pure true) (hv : ∀ i, i ∈ is → i ∈ own.map (·.2) := by decide) : PS X (.Assign [.Name y py] (.DictComp kx vx [⟨tg, iter, ifs, 0⟩] scope pos) spos) (tMS X.K (xasg i (xdcC tt fi (own.map (·.2)) g t fk fe))) :=
  PS.imp (ps_setDa (t := tt) B hy hyl hsw) fun D σ H h => dc_core1 hv (tMD_C (tasg_of h))
end
end Fy
namespace Fy
open PySem PySem.Spec PyProof.Rows L2

/-! ## the head: the defs' objects, the names, names that stand for built-in values -/
abbrev AlF : Type := Bool × He.AlD
def gxOk (gx : List (Str × Value)) (K : PySem.W.Frag) : Bool := gx.all fun p => He.eqO (PySem.W.nsIn K mainGlobals p.1) (some (some p.2))
def obsF (gx : List (Str × Value)) (fa : List He.Fa) (fn : List He.DefD) (K : PySem.W.Frag) : AlF := (gxOk gx K, He.obsD fa fn K)
def valF (fn : List He.DefD) : AlF := (true, He.valD fn)
def obsFG (n : Nat) (gx : List (Str × Value)) (fa : List He.Fa) (fn : List He.DefD) (g : Addr → Option Obj) : AlF := obsF gx fa fn (He.frG g (He.asD g n))
def hookF (n : Nat) (gx : List (Str × Value)) (fa : List He.Fa) (fn : List He.DefD) : PySem.W.Hook where
  α := AlF
  obs := fun s => obsFG n gx fa fn s.heap.get?
  val := fun _ => valF fn
  says := fun _ h => ∃ K : PySem.W.Frag, K.In h ∧ gxOk gx K = true ∧ He.SaysD fa fn K
  of := fun _ _ e => ⟨_, He.frG_in, congrArg (fun z : AlF => z.1) e, congrArg (fun z : AlF => z.2) e⟩
  keeps := fun _ _ _ ⟨K, hK, c⟩ k => ⟨K, PySem.W.Frag.In.keeps hK k, c⟩
theorem obsFG_eq {n : Nat} {gx : List (Str × Value)} {fa : List He.Fa} {fn : List He.DefD} {g : Addr → Option Obj} {s : Shared} (h : ∀ a, g a = s.heap.get? a) : obsFG n gx fa fn g = (hookF n gx fa fn).obs s := by
  have e : g = s.heap.get? := funext h
  rw [e]; rfl
theorem gx_at {gx : List (Str × Value)} {K : PySem.W.Frag} {h : Heap} {mg : Str → Option Value} (X : K.In h) (G : h.Ns mainGlobals mg) (c : gxOk gx K = true) (i : Nat) {x : Str} {v : Value} (e : gx[i]? = some (x, v) := by rfl) : mg x = some v := by
  have := List.all_eq_true.mp c (x, v) (List.mem_of_getElem? e)
  exact PySem.W.mg_of X G (He.eqO_ok this)

/-! ## a def by its object -/
section
variable {P : Program} {w : World} {K : PySem.W.Frag} {mg : Str → Option Value} {base : Heap} {x qual : Str} {params : Arguments} {body : List Stmt} {scope : Scope} {dvs : List V} {kws : List (Str × V)} {f : Addr} {fd : FuncData}
theorem fn_okD {N ps : List Str} {k : Nat} {b : XS} (F : FunD K x qual params body scope dvs kws f fd) (S : FnScope N ps scope)
    (hb : ∀ (cdv : Value) (A : Around) (outer : List Env) (s : Shared) (H : Hp) (E : XK), Room k (A.deeper (envOfC qual scope s.heap.objs.size f cdv)) →
      PSs (cxOf CX0 P w K mg base N qual scope f cdv A outer s H E).nox body (tMS K b)) : FnOk P w K mg base CX0 (k + 1) f fd ps (spM K ps.length (defn N.length b)) := by
  refine F.ok S (fun vs H Q E h => h.1) (fun cdv A outer s H vs Q E hr h => ⟨_, PSs.nox (hb cdv A outer s H E hr), ?_⟩)
  obtain ⟨_, ex, m, St, ws, w, S', R, r, hf, q⟩ := h
  obtain ⟨⟨fl, ρ', S2⟩, h1, h2⟩ := Option.bind_eq_some_iff.mp hf
  obtain ⟨z, h3, h4⟩ := Option.map_eq_some_iff.mp h2
  cases h4
  refine ⟨ex, _, m, St, fl, ρ', _, R, RE.start r, h1, fun σ' m' H' st R' E' => ?_⟩
  cases fl with
  | nx =>
    cases h3
    exact q _ m' H' st R' (non_rw (K := K) (ex := ex) (m := m') (H := H'))
  | rt u =>
    cases h3
    exact fun v r => q v m' H' st R' r
  | bk => cases h3
  | ct => cases h3
/-- a def that is called less deep than not at all -/
theorem fn_zero {N ps : List Str} {k n : Nat} (F : FunD K x qual params body scope dvs kws f fd) (S : FnScope N ps scope) : FnOk P w K mg base CX0 (k + 1) f fd ps (spM K n (fun _ _ => none)) := by
  refine F.ok S (fun vs H Q E h => ?_) (fun cdv A outer s H vs Q E hr h => ?_)
  · obtain ⟨_, ex, m, St, ws, w, S', R, r, hf, q⟩ := h; cases hf
  · obtain ⟨_, ex, m, St, ws, w, S', R, r, hf, q⟩ := h; cases hf
end
/-- what the law is called with -/
theorem kl_of {K : PySem.W.Frag} {H : Hp} {a : Addr} {ns : List Int} (O : Only H) (h : SqL K H a (ns.map V.int)) : True := trivial
end Fy
namespace Fy
open PySem PySem.Spec PyProof.Rows L2
theorem law_start {K : PySem.W.Frag} {g : Fn} (h : ∀ ns : List Int, ns.length ≤ 63 → ∃ S', g [.v (.fl (ns.map D.int))] [] = some (.one (.v (.bl true)), S')) (H : Hp) (a : Addr) (ns : List Int) (hn : ns.length ≤ 63) (O : Only H) (hs : SqL K H a (ns.map V.int)) :
    spM K 1 g [.ref a] H (fun v _ => v = .bl true) fun _ _ _ => False := by
  obtain ⟨S', hg⟩ := h ns hn
  refine ⟨rfl, [], [], [], [.v (.fl (ns.map D.int))], .one (.v (.bl true)), S', ⟨rfl, List.nodup_nil, ⟨fun a h => absurd h List.not_mem_nil, fun a h => absurd h List.not_mem_nil, fun a h => absurd h List.not_mem_nil⟩, fun k c a h => by simp at h⟩, .cons ?_ .nil, hg, fun v m' H' st R r => rw_bl (K := K) (ex := []) (m := m') (H := H') r⟩
  show RD K ([] ++ []) H (.fl (ns.map D.int)) (.ref a)
  rw [RD]
  refine ⟨a, ns.map V.int, rfl, ?_, ints_RDs ns⟩
  rcases hs with (hs | ⟨o, hs⟩) | hs
  · rcases O a with z | ⟨o, xs, z⟩ <;> rw [z] at hs <;> cases hs
  · exact .inl ⟨o, hs⟩
  · exact .inr hs
/-! ## the built-in names -/
theorem bb_len : bootBuiltins "len" = some (.builtin "len") := by decide +kernel
theorem bb_abs : bootBuiltins "abs" = some (.builtin "abs") := by decide +kernel
theorem bb_sum : bootBuiltins "sum" = some (.builtin "sum") := by decide +kernel
theorem bb_any : bootBuiltins "any" = some (.builtin "any") := by decide +kernel
theorem bb_all : bootBuiltins "all" = some (.builtin "all") := by decide +kernel
theorem bb_min : bootBuiltins "min" = some (.builtin "min") := by decide +kernel
theorem bb_max : bootBuiltins "max" = some (.builtin "max") := by decide +kernel
theorem bb_sorted : bootBuiltins "sorted" = some (.builtin "sorted") := by decide +kernel
theorem bb_int : bootBuiltins "int" = some (.type "int") := by decide +kernel
theorem bb_list : bootBuiltins "list" = some (.type "list") := by decide +kernel
theorem bb_tuple : bootBuiltins "tuple" = some (.type "tuple") := by decide +kernel
theorem bb_str : bootBuiltins "str" = some (.type "str") := by decide +kernel
theorem bb_bool : bootBuiltins "bool" = some (.type "bool") := by decide +kernel
theorem ty_ok_int : tyOk "int" = true := by decide +kernel
theorem ty_ok_list : tyOk "list" = true := by decide +kernel
theorem ty_ok_tuple : tyOk "tuple" = true := by decide +kernel
theorem ty_ok_str : tyOk "str" = true := by decide +kernel
theorem ty_ok_bool : tyOk "bool" = true := by decide +kernel
end Fy
namespace Fy
open PySem PySem.Spec PyProof.Rows L2

/-! ## reckoning with meanings -/
def gI (a b : Int) : Int := (Nat.gcd a.natAbs b.natAbs : Nat)
@[simp] theorem endW_nx : endW .nx = some (.one (.v .non)) := rfl
@[simp] theorem endW_rt {r : Ret} : endW (.rt r) = some r := rfl
@[simp] theorem frzR_v {lo : Nat} {S : Sto} {n : Nat} {d : D} : frzR lo S n (.one (.v d)) = some d := by cases n <;> rfl
@[simp] theorem toDs_comp {α : Type} {f : α → D} {l : List α} : toDs (l.map (W.v ∘ f)) = some (l.map f) := by rw [← List.map_map]; exact toDs_map _
@[simp] theorem toDs_fun {α : Type} {f : α → D} {l : List α} : toDs (l.map fun x => W.v (f x)) = some (l.map f) := toDs_comp (f := f)
@[simp] theorem xtt_ap {ρ : Rho} {S : Sto} : xtt ρ S = some (true, S) := rfl
theorem minF_cons {S : Sto} {d : D} {ds : List D} : minF S [.v (.lst (d :: ds))] = if (W.v d :: ds.map W.v).all isI = true ∨ (W.v d :: ds.map W.v).all isT = true then some (minW (.v d) (ds.map W.v)) else none := rfl
section
variable {ρ : Rho} {S : Sto} {a b c : XE} {fa fr : XA} {t : XT} {f g : XS}
@[simp] theorem ev_var {i : Nat} : xvar i ρ S = (ρ[i]?.join).map fun w => (w, S) := rfl
@[simp] theorem ev_c {d : D} : xc d ρ S = some (.v d, S) := rfl
@[simp] theorem ev_op {h : Sto → W → W → Option W} : xop h a b ρ S = (a ρ S).bind fun p => (b ρ p.2).bind fun q => (h q.2 p.1 q.1).map fun w => (w, q.2) := rfl
@[simp] theorem ev_un {h : Sto → W → Option W} : xun h a ρ S = (a ρ S).bind fun p => (h p.2 p.1).map fun w => (w, p.2) := rfl
def bOf : W → Option Bool
  | .v (.bl b) => some b
  | _ => none
@[simp] theorem bOf_bl {x : Bool} : bOf (.v (.bl x)) = some x := rfl
@[simp] theorem ev_tb : xtb a ρ S = (a ρ S).bind fun p => (bOf p.1).map fun b => (b, p.2) := by
  show ((a ρ S).bind fun p => match p.1 with | .v (.bl b) => some (b, p.2) | _ => none) = _
  congr 1
  funext p
  obtain ⟨w, S'⟩ := p
  cases w with
  | ref k => rfl
  | v d => cases d <;> rfl
@[simp] theorem ev_and {u : XT} : xtand t u ρ S = (t ρ S).bind fun p => if p.1 = true then u ρ p.2 else some (false, p.2) := rfl
@[simp] theorem ev_or {u : XT} : xtor t u ρ S = (t ρ S).bind fun p => if p.1 = true then some (true, p.2) else u ρ p.2 := rfl
@[simp] theorem ev_tnot : xtnot t ρ S = (t ρ S).map fun p => (!p.1, p.2) := rfl
@[simp] theorem ev_tru : xtru a ρ S = (a ρ S).bind fun p => (truF p.2 p.1).map fun b => (b, p.2) := rfl
@[simp] theorem ev_if : xif t a b ρ S = (t ρ S).bind fun p => if p.1 = true then a ρ p.2 else b ρ p.2 := rfl
@[simp] theorem ev_nil : xnil ρ S = some ([], S) := rfl
@[simp] theorem ev_cons : xcons a fr ρ S = (a ρ S).bind fun p => (fr ρ p.2).map fun q => (p.1 :: q.1, q.2) := rfl
@[simp] theorem ev_tup {k : Bool} : xtup k fa ρ S = (fa ρ S).bind fun p => if p.1.length ≤ LIM then (toDs p.1).map fun ds => (.v (.tup k ds), p.2) else none := rfl
@[simp] theorem ev_lst : xlst fa ρ S = (fa ρ S).bind fun p => if p.1.length ≤ LIM then some p else none := rfl
@[simp] theorem ev_val : xval fa ρ S = (fa ρ S).bind fun p => (toDs p.1).map fun ds => (.v (.lst ds), p.2) := rfl
@[simp] theorem ev_cel : xcel fa ρ S = (fa ρ S).map fun p => (.ref p.2.length, p.2 ++ [.lst p.1]) := rfl
@[simp] theorem ev_call {h : Sto → List W → Option W} : xcall h fa ρ S = (fa ρ S).bind fun p => (h p.2 p.1).map fun w => (w, p.2) := rfl
@[simp] theorem ev_callL {h : Sto → List W → Option (List W)} : xcallL h fa ρ S = (fa ρ S).bind fun p => (h p.2 p.1).map fun w => (w, p.2) := rfl
@[simp] theorem ev_isi {T : String} : xisi T a ρ S = (a ρ S).map fun p => (.v (.bl (isTy (tyW p.2 p.1) T)), p.2) := rfl
@[simp] theorem ev_meth {ty : Sto → W → Bool} {h : MF} : xmeth ty h a fa ρ S = (a ρ S).bind fun p => if ty p.2 p.1 = true then (fa ρ p.2).bind fun q => h q.2 p.1 q.1 else none := rfl
@[simp] theorem ev_callP {h : Fn} : xcallP h fa ρ S = (fa ρ S).bind fun p => (toDs p.1).bind fun ds => (runP h ds).map fun d => (.v d, p.2) := rfl
@[simp] theorem ev_callD {h : Fn} : xcallD h fa ρ S = (fa ρ S).bind fun p => (runD h p.1 p.2).map fun q => (.v q.1, q.2) := rfl
@[simp] theorem ev_callS {h : Fn} : xcallS h fa ρ S = (fa ρ S).bind fun p => (h p.1 p.2).bind oneR := rfl
@[simp] theorem ev_skip : xskip ρ S = some (.nx, ρ, S) := rfl
@[simp] theorem ev_brk : xbrk ρ S = some (.bk, ρ, S) := rfl
@[simp] theorem ev_cnt : xcnt ρ S = some (.ct, ρ, S) := rfl
def thenS (g : XS) : Out → Option Out
  | (.nx, ρ, S) => g ρ S
  | p => some p
@[simp] theorem then_nx : thenS g (.nx, ρ, S) = g ρ S := rfl
@[simp] theorem then_rt {r : Ret} : thenS g (.rt r, ρ, S) = some (.rt r, ρ, S) := rfl
@[simp] theorem then_bk : thenS g (.bk, ρ, S) = some (.bk, ρ, S) := rfl
@[simp] theorem then_ct : thenS g (.ct, ρ, S) = some (.ct, ρ, S) := rfl
@[simp] theorem ev_seq : xseq f g ρ S = (f ρ S).bind (thenS g) := by
  show ((f ρ S).bind fun p => match p.1 with
    | .nx => g p.2.1 p.2.2
    | _ => some p) = _
  congr 1
  funext p
  obtain ⟨fl, ρ', S'⟩ := p
  cases fl <;> rfl
/-- a loop's turn -/
def turnW (k : Rho → Sto → Option Out) : Out → Option Out
  | (.nx, ρ, S) => k ρ S
  | (.ct, ρ, S) => k ρ S
  | (.bk, ρ, S) => some (.nx, ρ, S)
  | (.rt w, ρ, S) => some (.rt w, ρ, S)
@[simp] theorem turn_nx {k : Rho → Sto → Option Out} : turnW k (.nx, ρ, S) = k ρ S := rfl
@[simp] theorem turn_ct {k : Rho → Sto → Option Out} : turnW k (.ct, ρ, S) = k ρ S := rfl
@[simp] theorem turn_bk {k : Rho → Sto → Option Out} : turnW k (.bk, ρ, S) = some (.nx, ρ, S) := rfl
@[simp] theorem turn_rt {k : Rho → Sto → Option Out} {w : Ret} : turnW k (.rt w, ρ, S) = some (.rt w, ρ, S) := rfl
theorem ev_while : xwhile t f ρ S = (t ρ S).bind fun p => if p.1 = true then (f ρ p.2).bind (turnW (xwhile t f)) else some (.nx, ρ, p.2) := by
  rw [xwhile_eq]
  congr 1
  funext p
  by_cases h : p.1 = true
  · rw [if_pos h, if_pos h]
    congr 1
    funext q
    obtain ⟨fl, ρ', S'⟩ := q
    cases fl <;> rfl
  · rw [if_neg h, if_neg h]
@[simp] theorem ev_ret : xret a ρ S = (a ρ S).map fun p => (.rt (.one p.1), ρ, p.2) := rfl
@[simp] theorem ev_retT : xretT fa ρ S = (fa ρ S).bind fun p => if p.1.length ≤ LIM then some (.rt (.tup p.1), ρ, p.2) else none := rfl
@[simp] theorem ev_retN : xretN ρ S = some (.rt (.one (.v .non)), ρ, S) := rfl
@[simp] theorem ev_expr : xexpr a ρ S = (a ρ S).map fun p => (.nx, ρ, p.2) := rfl
@[simp] theorem ev_ifS : xifS t f g ρ S = (t ρ S).bind fun p => if p.1 = true then f ρ p.2 else g ρ p.2 := rfl
@[simp] theorem ev_asg {i : Nat} : xasg i a ρ S = (a ρ S).map fun p => (.nx, ρ.set i (some p.1), p.2) := rfl
@[simp] theorem ev_par {i j : Nat} : xpar i j fa ρ S = (fa ρ S).bind fun p => (parF i j ρ p.1).map fun r => (.nx, r, p.2) := rfl
@[simp] theorem ev_parF {i j : Nat} {v w : W} : parF i j ρ [v, w] = some ((ρ.set i (some v)).set j (some w)) := rfl
@[simp] theorem ev_aug {i : Nat} {h : Int → Int → Int} : xaug h i a ρ S = (ρ[i]?.join).bind fun x => (a ρ S).bind fun p => (intOf x).bind fun k => (intOf p.1).map fun l => (.nx, ρ.set i (some (.v (.int (h k l)))), p.2) := rfl
@[simp] theorem ev_asgG {h : XG} : xasgG h a ρ S = (a ρ S).bind fun p => (h p.1 ρ p.2).map fun q => (.nx, q.1, q.2) := rfl
@[simp] theorem ev_gname {i : Nat} {w : W} : xgname i w ρ S = some (ρ.set i (some w), S) := rfl
@[simp] theorem ev_gnil : xgnil [] ρ S = some (ρ, S) := rfl
@[simp] theorem ev_gcons {h : XG} {r : XGs} {w : W} {ws : List W} : xgcons h r (w :: ws) ρ S = (h w ρ S).bind fun p => r ws p.1 p.2 := rfl
@[simp] theorem ev_gtup {n : Nat} {h : XGs} {w : W} : xgtup n h w ρ S = (tupW w).bind fun ws => if ws.length = n then h ws ρ S else none := rfl
@[simp] theorem ev_gsub {w : W} : xgsub a b w ρ S = (a ρ S).bind fun p => (b ρ p.2).bind fun q => (setF q.2 p.1 q.1 w).map fun S' => (ρ, S') := rfl
@[simp] theorem ev_dnK : xdnK ρ S = some (.ref S.length, S ++ [.dK []]) := rfl
@[simp] theorem ev_dnT : xdnT ρ S = some (.ref S.length, S ++ [.dT []]) := rfl
@[simp] theorem ev_rng1 : xirng1 a ρ S = (a ρ S).bind fun p => (intOf p.1).bind fun j => if rngOk 0 j = true then some (rngW 0 j, free, p.2) else none := rfl
@[simp] theorem ev_rng2 : xirng2 a b ρ S = (a ρ S).bind fun p => (b ρ p.2).bind fun q => (intOf p.1).bind fun i => (intOf q.1).bind fun j => if rngOk i j = true then some (rngW i j, free, q.2) else none := rfl
@[simp] theorem ev_it : xit a ρ S = (a ρ S).bind fun p => (itOf p.2 p.1).map fun q => (q.1, q.2, p.2) := rfl
@[simp] theorem ev_enum : xienum a ρ S = (a ρ S).bind fun p => (srcL p.2 p.1).bind fun q => (toDs q.1).map fun ds => (enumW 0 ds, q.2, p.2) := rfl
@[simp] theorem intOf_int {i : Int} : intOf (.v (.int i)) = some i := rfl
@[simp] theorem tupW_tup {k : Bool} {ds : List D} : tupW (.v (.tup k ds)) = some (ds.map .v) := rfl
@[simp] theorem toDs_nil : toDs [] = some [] := rfl
@[simp] theorem toDs_cons {d : D} {r : List W} : toDs (.v d :: r) = (toDs r).map (d :: ·) := rfl
@[simp] theorem toDs_ofmap {ds : List D} : toDs (ds.map W.v) = some ds := toDs_map ds
@[simp] theorem add_int {i j : Int} : addF S (.v (.int i)) (.v (.int j)) = some (.v (.int (i + j))) := rfl
@[simp] theorem sub_int {i j : Int} : subF S (.v (.int i)) (.v (.int j)) = some (.v (.int (i - j))) := rfl
@[simp] theorem neg_int {i : Int} : negF S (.v (.int i)) = some (.v (.int (-i))) := rfl
@[simp] theorem mul_int {i j : Int} : mulF S (.v (.int i)) (.v (.int j)) = if mulOk i j = true then some (.v (.int (i * j))) else none := rfl
@[simp] theorem div_int {i j : Int} : fdivF S (.v (.int i)) (.v (.int j)) = if divOk j = true then some (.v (.int (i / j))) else none := by
  show ((if divOk j = true then some (D.int (i / j)) else none).map W.v) = _
  split <;> rfl
@[simp] theorem mod_int {i j : Int} : modF S (.v (.int i)) (.v (.int j)) = if 0 < j then some (.v (.int (i % j))) else none := by
  show ((if 0 < j then some (D.int (i % j)) else none).map W.v) = _
  split <;> rfl
theorem mulOk_small {i j : Int} (hi : i.natAbs ≤ 10 ^ 100) (hj : j.natAbs ≤ 10 ^ 100) : mulOk i j = true := by
  have l : ∀ n : Nat, n ≤ 10 ^ 100 → n.log2 ≤ 400 := fun n h => by
    by_cases z : n = 0
    · subst z; simp
    · have := (Nat.log2_lt z (k := 401)).mpr (Nat.lt_of_le_of_lt h (by decide))
      omega
  unfold mulOk
  rw [decide_eq_true_eq]
  have := l _ hi
  have := l _ hj
  omega
theorem divOk_small {j : Int} (h : 0 < j) (hj : j ≤ 10 ^ 100) : divOk j = true := by
  unfold divOk
  rw [Bool.and_eq_true, decide_eq_true_eq, decide_eq_true_eq]
  refine ⟨h, ?_⟩
  have : j.natAbs < 2 ^ 9000 := by
    have h1 : j.natAbs ≤ 10 ^ 100 := by omega
    exact Nat.lt_of_le_of_lt h1 (by decide +kernel)
  exact (Nat.log2_lt (by omega)).mpr this
@[simp] theorem lt_int {i j : Int} : ltF S (.v (.int i)) (.v (.int j)) = some (.v (.bl (decide (i < j)))) := rfl
@[simp] theorem le_int {i j : Int} : leF S (.v (.int i)) (.v (.int j)) = some (.v (.bl (decide (i ≤ j)))) := rfl
@[simp] theorem gt_int {i j : Int} : gtF S (.v (.int i)) (.v (.int j)) = some (.v (.bl (decide (j < i)))) := rfl
@[simp] theorem ge_int {i j : Int} : geF S (.v (.int i)) (.v (.int j)) = some (.v (.bl (decide (j ≤ i)))) := rfl
@[simp] theorem gcd_int {i j : Int} : gcdF S [.v (.int i), .v (.int j)] = some (.v (.int (gI i j))) := rfl
@[simp] theorem abs_int {i : Int} : absF S [.v (.int i)] = some (.v (.int (if i < 0 then -i else i))) := rfl
@[simp] theorem int_int {i : Int} : intF S [.v (.int i)] = some (.v (.int i)) := rfl
@[simp] theorem isN_eq {w : W} : isNF S w (.v .non) = some (.v (.bl (isNon w))) := rfl
@[simp] theorem notN_eq {w : W} : notNF S w (.v .non) = some (.v (.bl (!isNon w))) := rfl
@[simp] theorem eq_int {i j : Int} : eqF S (.v (.int i)) (.v (.int j)) = some (.v (.bl (decide (i = j)))) := by
  show (if okD (.int i) = true ∧ okD (.int j) = true then some (W.v (.bl (eqD (.int i) (.int j)))) else none) = _
  have h : okD (.int i) = true ∧ okD (.int j) = true := ⟨rfl, rfl⟩
  rw [if_pos h]
  have : eqD (.int i) (.int j) = decide (i = j) := by
    unfold eqD
    show (i == j) = _
    by_cases e : i = j <;> simp [e]
  rw [this]
@[simp] theorem ne_int {i j : Int} : neF S (.v (.int i)) (.v (.int j)) = some (.v (.bl (!decide (i = j)))) := by
  show (if okD (.int i) = true ∧ okD (.int j) = true then some (W.v (.bl (!eqD (.int i) (.int j)))) else none) = _
  have h : okD (.int i) = true ∧ okD (.int j) = true := ⟨rfl, rfl⟩
  rw [if_pos h]
  have : eqD (.int i) (.int j) = decide (i = j) := by
    unfold eqD
    show (i == j) = _
    by_cases e : i = j <;> simp [e]
  rw [this]
end
/-! loops -/
theorem forL_inv {ok : Sto → Prop} {body : W → Rho → Sto → Option Out} {ws : List W} (P : Nat → Rho → Sto → Prop) (hok : ∀ i ρ S, P i ρ S → ok S)
    (hb : ∀ i w ρ S, ws[i]? = some w → P i ρ S → ∃ fl ρ' S', body w ρ S = some (fl, ρ', S') ∧ (fl = .nx ∨ fl = .ct) ∧ P (i + 1) ρ' S') {ρ : Rho} {S : Sto} (h0 : P 0 ρ S) :
    ∃ ρ' S', forL ok body ws ρ S = some (.nx, ρ', S') ∧ P ws.length ρ' S' := by
  have key : ∀ (k i : Nat) (ρ : Rho) (S : Sto), k = ws.length - i → i ≤ ws.length → P i ρ S → ∃ ρ' S', forL ok body (ws.drop i) ρ S = some (.nx, ρ', S') ∧ P ws.length ρ' S' := by
    intro k
    induction k with
    | zero =>
      intro i ρ S hk hi h
      have e : i = ws.length := by omega
      subst e
      rw [List.drop_length, forL, if_pos (hok _ _ _ h)]
      exact ⟨ρ, S, rfl, h⟩
    | succ k ih =>
      intro i ρ S hk hi h
      have hlt : i < ws.length := by omega
      obtain ⟨fl, ρ1, S1, h1, h2, h3⟩ := hb i ws[i] ρ S (List.getElem?_eq_getElem hlt) h
      rw [List.drop_eq_getElem_cons hlt, forL, if_pos (hok _ _ _ h), h1]
      obtain ⟨ρ2, S2, h4, h5⟩ := ih (i + 1) ρ1 S1 (by omega) hlt h3
      refine ⟨ρ2, S2, ?_, h5⟩
      rcases h2 with e | e <;> subst e <;> exact h4
  simpa using key ws.length 0 ρ S rfl (Nat.zero_le _) h0
theorem compL_eq {ok : Sto → Prop} {turn : W → Sto → Option (Option W × Sto)} {S : Sto} (f : W → Option W) (hok : ok S) : ∀ {ws : List W}, (∀ w ∈ ws, turn w S = some (f w, S)) → compL ok turn ws S = some (ws.filterMap f, S)
  | [], _ => by rw [compL, if_pos hok]; rfl
  | w :: ws, h => by
    rw [compL, if_pos hok, h w List.mem_cons_self]
    have ih := compL_eq f hok fun u hu => h u (List.mem_cons_of_mem _ hu)
    cases e : f w with
    | none =>
      show compL ok turn ws S = _
      rw [ih, List.filterMap_cons, e]
    | some y =>
      show (compL ok turn ws S).map _ = _
      rw [ih, List.filterMap_cons, e]; rfl
theorem filterMap_some {α β : Type} (f : α → β) (l : List α) : l.filterMap (fun x => some (f x)) = l.map f := by
  induction l with
  | nil => rfl
  | cons x l ih => simp
end Fy
namespace Fy
open PySem PySem.Spec PyProof.Rows L2

/-! ## plain pairs, sorted lists -/
theorem xlc_pure {it : XI} {vs : List Nat} {g : XG} {t : XT} {e : XE} {ρ : Rho} {S : Sto} {ws : List W} {ok : Sto → Prop} {S0 : Sto} (hit : it ρ S = some (ws, ok, S0)) (hl : ws.length ≤ LIM) (hok : ok S0) (f : W → Option W)
    (ht : ∀ w ∈ ws, lcTurn vs g t e ρ w S0 = some (f w, S0)) : xlc it vs g t e ρ S = some (ws.filterMap f, S0) := by
  unfold xlc
  rw [hit]
  show (if ws.length ≤ LIM then compL ok (lcTurn vs g t e ρ) ws S0 else none) = _
  rw [if_pos hl, compL_eq f hok ht]
theorem ev_turn {vs : List Nat} {g : XG} {t : XT} {e : XE} {ρ : Rho} {w : W} {S : Sto} : lcTurn vs g t e ρ w S = (g w (wipeR ρ vs) S).bind fun p => (t p.1 p.2).bind fun b => if b.1 = true then (e p.1 b.2).map fun y => (some y.1, y.2) else some (none, b.2) := rfl
/-- a loop, its pieces as they are written (chosen, so that nobody unfolds it) -/
theorem forB_ex : ∃ F : (Sto → Prop) → XG → XS → List W → Rho → Sto → Option Out, ∀ ok g b ws ρ S, F ok g b ws ρ S = forL ok (fun w ρ S => (g w ρ S).bind fun q => b q.1 q.2) ws ρ S := ⟨fun ok g b ws ρ S => forL ok (fun w ρ S => (g w ρ S).bind fun q => b q.1 q.2) ws ρ S, fun _ _ _ _ _ _ => rfl⟩
noncomputable def forB : (Sto → Prop) → XG → XS → List W → Rho → Sto → Option Out := Classical.choose forB_ex
theorem forB_eq (ok : Sto → Prop) (g : XG) (b : XS) (ws : List W) (ρ : Rho) (S : Sto) : forB ok g b ws ρ S = forL ok (fun w ρ S => (g w ρ S).bind fun q => b q.1 q.2) ws ρ S := Classical.choose_spec forB_ex ok g b ws ρ S
@[simp] theorem ev_for {it : XI} {g : XG} {b : XS} {ρ : Rho} {S : Sto} : xfor it g b ρ S = (it ρ S).bind fun p => forB p.2.1 g b p.1 ρ p.2.2 := by
  show ((it ρ S).bind fun p => forL p.2.1 (fun w ρ S => (g w ρ S).bind fun q => b q.1 q.2) p.1 ρ p.2.2) = _
  congr 1
  funext p
  rw [forB_eq]
theorem rngW_length {lo hi : Int} : (rngW lo hi).length = (hi - lo).toNat := by unfold rngW; simp
theorem rngW_get {lo hi : Int} {i : Nat} {w : W} (h : (rngW lo hi)[i]? = some w) : w = .v (.int (lo + i)) ∧ lo + i < hi := by
  unfold rngW at h
  rw [List.getElem?_map] at h
  obtain ⟨c, h1, h2⟩ := Option.map_eq_some_iff.mp h
  obtain ⟨hl, hv⟩ := List.getElem?_eq_some_iff.mp h1
  rw [List.length_range] at hl
  rw [List.getElem_range] at hv
  subst hv
  exact ⟨h2.symm, by omega⟩
theorem rngW_mem {lo hi : Int} {w : W} (h : w ∈ rngW lo hi) : ∃ i : Int, w = .v (.int i) ∧ lo ≤ i ∧ i < hi := by
  obtain ⟨k, hk⟩ := List.mem_iff_getElem?.mp h
  obtain ⟨e, hl⟩ := rngW_get hk
  exact ⟨lo + k, e, by omega, hl⟩
/-- a loop over a range, pure or not: by the count -/
theorem for_rng {lo hi : Int} {g : XG} {b : XS} (P : Int → Rho → Sto → Prop) (hle : lo ≤ hi)
    (hb : ∀ i ρ S, lo ≤ i → i < hi → P i ρ S → ∃ fl ρ' S', ((g (.v (.int i)) ρ S).bind fun q => b q.1 q.2) = some (fl, ρ', S') ∧ (fl = .nx ∨ fl = .ct) ∧ P (i + 1) ρ' S') {ρ : Rho} {S : Sto} (h0 : P lo ρ S) :
    ∃ ρ' S', forB free g b (rngW lo hi) ρ S = some (.nx, ρ', S') ∧ P hi ρ' S' := by
  generalize hbd : (fun w ρ S => (g w ρ S).bind fun q => b q.1 q.2 : W → Rho → Sto → Option Out) = body
  have hb : ∀ i ρ S, lo ≤ i → i < hi → P i ρ S → ∃ fl ρ' S', body (.v (.int i)) ρ S = some (fl, ρ', S') ∧ (fl = .nx ∨ fl = .ct) ∧ P (i + 1) ρ' S' := by rw [← hbd]; exact hb
  simp only [forB_eq]
  rw [hbd]
  have st : ∀ (k : Nat) (w : W) (ρ : Rho) (S : Sto), (rngW lo hi)[k]? = some w → P (lo + k) ρ S → ∃ fl ρ' S', body w ρ S = some (fl, ρ', S') ∧ (fl = .nx ∨ fl = .ct) ∧ P (lo + ((k + 1 : Nat) : Int)) ρ' S' := fun k w ρ S hw p => by
    obtain ⟨e, hl⟩ := rngW_get hw
    subst e
    obtain ⟨fl, ρ1, S1, a1, a2, a3⟩ := hb (lo + k) ρ S (by omega) hl p
    exact ⟨fl, ρ1, S1, a1, a2, by rw [show lo + ((k + 1 : Nat) : Int) = lo + k + 1 by omega]; exact a3⟩
  obtain ⟨ρ', S', h1, h2⟩ := forL_inv (ok := free) (body := body) (ws := rngW lo hi) (fun k ρ S => P (lo + k) ρ S) (fun _ _ _ _ => trivial) st (ρ := ρ) (S := S) (by simpa using h0)
  refine ⟨ρ', S', h1, ?_⟩
  have h2 : P (lo + ((rngW lo hi).length : Nat)) ρ' S' := h2
  rw [rngW_length] at h2
  have : lo + ((hi - lo).toNat : Int) = hi := by omega
  rw [this] at h2
  exact h2
/-- a loop over given items -/
theorem for_items {α : Type} {enc : α → W} {ok : Sto → Prop} {g : XG} {b : XS} {xs : List α} (P : List α → List α → Rho → Sto → Prop) (hok : ∀ a b ρ S, P a b ρ S → ok S)
    (hb : ∀ done x rest ρ S, xs = done ++ x :: rest → P done (x :: rest) ρ S → ∃ fl ρ' S', ((g (enc x) ρ S).bind fun q => b q.1 q.2) = some (fl, ρ', S') ∧ (fl = .nx ∨ fl = .ct) ∧ P (done ++ [x]) rest ρ' S') {ρ : Rho} {S : Sto} (h0 : P [] xs ρ S) :
    ∃ ρ' S', forB ok g b (xs.map enc) ρ S = some (.nx, ρ', S') ∧ P xs [] ρ' S' := by
  generalize hbd : (fun w ρ S => (g w ρ S).bind fun q => b q.1 q.2 : W → Rho → Sto → Option Out) = body
  have hb : ∀ done x rest ρ S, xs = done ++ x :: rest → P done (x :: rest) ρ S → ∃ fl ρ' S', body (enc x) ρ S = some (fl, ρ', S') ∧ (fl = .nx ∨ fl = .ct) ∧ P (done ++ [x]) rest ρ' S' := by rw [← hbd]; exact hb
  simp only [forB_eq]
  rw [hbd]
  have key : ∀ (rest done : List α) (ρ : Rho) (S : Sto), xs = done ++ rest → P done rest ρ S → ∃ ρ' S', forL ok body (rest.map enc) ρ S = some (.nx, ρ', S') ∧ P xs [] ρ' S' := by
    intro rest
    induction rest with
    | nil =>
      intro done ρ S e p
      rw [List.append_nil] at e
      subst e
      rw [List.map_nil, forL, if_pos (hok _ _ _ _ p)]
      exact ⟨ρ, S, rfl, p⟩
    | cons x rest ih =>
      intro done ρ S e p
      obtain ⟨fl, ρ1, S1, h1, h2, h3⟩ := hb done x rest ρ S e p
      obtain ⟨ρ2, S2, h4, h5⟩ := ih (done ++ [x]) ρ1 S1 (by rw [e]; simp) h3
      refine ⟨ρ2, S2, ?_, h5⟩
      rw [List.map_cons, forL, if_pos (hok _ _ _ _ p), h1]
      rcases h2 with e | e <;> subst e <;> exact h4
  exact key xs [] ρ S rfl h0
/-! pairs -/
def encP (p : Int × Int) : D := .tup true [.int p.1, .int p.2]
def keyP (p : Int × Int) : List Key := [.inl p.1, .inl p.2]
def ltP (p q : Int × Int) : Bool := HT.lexLt [p.1, p.2] [q.1, q.2]
def encO : Option (Int × Int) → D
  | none => .non
  | some p => encP p
theorem ltW_enc (p q : Int × Int) : ltW (.v (encP p)) (.v (encP q)) = ltP p q := rfl
theorem keyT_enc (p : Int × Int) : keyT (.v (encP p)) = some (keyP p) := rfl
theorem keyTup_enc (p : Int × Int) : keyTupD (keyP p) = encP p := rfl
theorem keyP_inj {p q : Int × Int} (h : keyP p = keyP q) : p = q := by
  obtain ⟨a, b⟩ := p
  obtain ⟨c, d⟩ := q
  unfold keyP at h
  simp at h
  rw [h.1, h.2]
theorem ltF_enc {S : Sto} (p q : Int × Int) : ltF S (.v (encP p)) (.v (encP q)) = some (.v (.bl (ltP p q))) := rfl
def minP (o : Option (Int × Int)) (p : Int × Int) : Option (Int × Int) := match o with
  | none => some p
  | some q => some (if ltP p q = true then p else q)
theorem minW_enc (p : Int × Int) : ∀ l : List (Int × Int), some (minW (.v (encP p)) (l.map fun q => .v (encP q))) = (l.foldl minP (some p)).map fun q => W.v (encP q)
  | [] => rfl
  | q :: l => by
    have ih := minW_enc (if ltP q p = true then q else p) l
    show some (minW (if ltW (.v (encP q)) (.v (encP p)) = true then .v (encP q) else .v (encP p)) (l.map fun q => .v (encP q))) = _
    rw [ltW_enc]
    have e : (if ltP q p = true then W.v (encP q) else .v (encP p)) = .v (encP (if ltP q p = true then q else p)) := by split <;> rfl
    rw [e, ih]; rfl
theorem swo_ltP : SrtO.Swo ltP := swo_lexK fun p : Int × Int => [p.1, p.2]
theorem insB_map {α β : Type} {la : α → α → Bool} {lb : β → β → Bool} (f : α → β) (h : ∀ a b, lb (f a) (f b) = la a b) (x : α) : ∀ l : List α, insB lb (f x) (l.map f) = (insB la x l).map f
  | [] => rfl
  | y :: l => by
    show (if lb (f y) (f x) = true then f y :: insB lb (f x) (l.map f) else f x :: f y :: l.map f) = (if la y x = true then y :: insB la x l else x :: y :: l).map f
    rw [h, insB_map f h x l]
    split <;> rfl
theorem isort_map {α β : Type} {la : α → α → Bool} {lb : β → β → Bool} (f : α → β) (h : ∀ a b, lb (f a) (f b) = la a b) : ∀ l : List α, isort lb (l.map f) = (isort la l).map f
  | [] => rfl
  | x :: l => by
    show insB lb (f x) (isort lb (l.map f)) = _
    rw [isort_map f h l, insB_map f h]; rfl
/-- found[p] = True -/
def insP (l : List (Int × Int)) (p : Int × Int) : List (Int × Int) := if p ∈ l then l else l ++ [p]
def kvT (p : Int × Int) : List Key × W := (keyP p, .v (.bl true))
theorem any_key {v : Int × Int → W} (p : Int × Int) (l : List (Int × Int)) : ((l.map fun q => (keyP q, v q)).any fun kv => decide (kv.1 = keyP p)) = decide (p ∈ l) := by
  induction l with
  | nil => simp
  | cons q l ih =>
    rw [List.map_cons, List.any_cons, ih]
    by_cases h : q = p
    · subst h; simp
    · have : ¬ keyP q = keyP p := fun e => h (keyP_inj e)
      simp [this, Ne.symm h]
theorem dput_T (l : List (Int × Int)) (p : Int × Int) : dput (l.map kvT) (keyP p) (.v (.bl true)) = (insP l p).map kvT := by
  unfold dput insP
  have := any_key (v := fun _ => .v (.bl true)) p l
  rw [show (l.map kvT) = l.map fun q => (keyP q, W.v (.bl true)) from rfl, this]
  by_cases h : p ∈ l
  · rw [if_pos (by simpa using h), if_pos h]
    rw [List.map_map]
    apply List.map_congr_left
    intro q _
    show (if keyP q = keyP p then (keyP q, W.v (.bl true)) else (keyP q, W.v (.bl true))) = kvT q
    split <;> rfl
  · rw [if_neg (by simpa using h), if_neg h, List.map_append]; rfl
theorem insP_nodup {l : List (Int × Int)} (h : l.Nodup) (p : Int × Int) : (insP l p).Nodup := by
  unfold insP
  split
  · exact h
  · rename_i hp
    rw [List.nodup_append]
    refine ⟨h, by simp, fun a ha b hb e => ?_⟩
    have : b = p := by simpa using hb
    subst this
    subst e
    exact hp ha
theorem insP_mem {l : List (Int × Int)} {p q : Int × Int} : q ∈ insP l p ↔ q ∈ l ∨ q = p := by
  unfold insP
  split
  · rename_i hp
    constructor
    · exact .inl
    · rintro (h | h)
      · exact h
      · subst h; exact hp
  · simp
theorem insP_length (l : List (Int × Int)) (p : Int × Int) : (insP l p).length ≤ l.length + 1 := by
  unfold insP
  split <;> simp
/-- number[p] = k, the p's one by one -/
theorem dput_N {v : Int × Int → W} {l : List (Int × Int)} {p : Int × Int} (h : p ∉ l) (f : List (List Key × W)) (hf : f.map (·.1) = l.map keyP) (w : W) : dput f (keyP p) w = f ++ [(keyP p, w)] := by
  unfold dput
  have : (f.any fun kv => decide (kv.1 = keyP p)) = false := by
    rw [List.any_eq_false]
    intro kv hkv
    simp only [decide_eq_true_eq]
    intro e
    have : keyP p ∈ f.map (·.1) := by rw [← e]; exact List.mem_map_of_mem hkv
    rw [hf] at this
    obtain ⟨q, hq, e2⟩ := List.mem_map.mp this
    rw [keyP_inj e2] at hq
    exact h hq
  rw [this]
  rfl
def numK (l : List (Int × Int)) (n : Nat) : List (List Key × W) := l.zipIdx n |>.map fun q => (keyP q.1, .v (.int q.2))
def numD (l : List (Int × Int)) : D := .dT (l.map keyP) ((List.range l.length).map fun i : Nat => .int (i : Int))
theorem numK_keys (l : List (Int × Int)) : ∀ n, (numK l n).map (·.1) = l.map keyP := by
  induction l with
  | nil => intro n; rfl
  | cons p l ih =>
    intro n
    show keyP p :: (numK l (n + 1)).map (·.1) = _
    rw [ih]; rfl
theorem dget_num {p : Int × Int} : ∀ {l : List (Int × Int)} (n : Nat), p ∈ l → ∃ i : Nat, dget (numK l n) (keyP p) = some (.v (.int i)) ∧ i < n + l.length
  | q :: l, n, h => by
    by_cases e : keyP q = keyP p
    · refine ⟨n, ?_, by simp⟩
      unfold dget
      show ((((keyP q, W.v (.int n)) :: numK l (n + 1)).find? fun kv => decide (kv.1 = keyP p)).map (·.2)) = _
      rw [List.find?_cons_of_pos (by simpa using e)]; rfl
    · have hp : p ∈ l := by
        rcases List.mem_cons.mp h with z | z
        · subst z; exact absurd rfl e
        · exact z
      obtain ⟨i, h1, h2⟩ := dget_num (n + 1) hp
      refine ⟨i, ?_, by simp; omega⟩
      unfold dget at h1 ⊢
      show ((((keyP q, W.v (.int n)) :: numK l (n + 1)).find? fun kv => decide (kv.1 = keyP p)).map (·.2)) = _
      rw [List.find?_cons_of_neg (by simpa using e)]; exact h1
end Fy
namespace Q58
open PySem PySem.Spec PyProof.Rows L2 Fy
/-! ### the text -/
def top (i : Nat) : Stmt := PySem.Challenge.pw_fareyhouse_k58_matrices_of_primes_and_im.main.body.getD i (.Pass ⟨0, 0, 0, 0⟩)
def names : List (Str × Nat) := [("primes_of", 2), ("units", 3), ("symbol_of", 4), ("symbols", 5), ("count_symbols", 6), ("heilbronn", 8), ("image", 9), ("_law_state", 11), ("_law_draw", 12), ("_law_pick", 13), ("_law_eq", 14), ("_law_gcd", 15), ("_law_symbol", 16), ("_law_heilbronn", 17), ("_law_symbols", 18), ("_law_image", 19), ("law", 20)]
def dd (p : Str × Nat) : He.DefD := ⟨(p.1, none), p.1, p.1, defArgs (top p.2), defBody (top p.2), defScope (top p.2), [], []⟩
def fn : List He.DefD := names.map dd
def fa : List He.Fa := (names.map fun p => .glo p.1) ++ [.free "range", .free "all", .free "min", .free "sorted", .free "enumerate", .free "int", .free "abs", .free "len", .free "list", .free "isinstance", .free "tuple", .free "str", .free "bool", .free "max"]
def gx : List (Str × Value) := [("gcd", .builtin "math.gcd")]
structure Cn (K : PySem.W.Frag) (mg : Str → Option Value) : Prop where
  c : He.SaysD fa fn K
  g : gxOk gx K = true
  m : ∃ h : Heap, K.In h ∧ h.Ns mainGlobals mg
section
variable {K : PySem.W.Frag} {mg : Str → Option Value}
theorem Cn.gl_primes_of (c : Cn K mg) : mg "primes_of" = some (.ref (He.ga K "primes_of")) := by obtain ⟨h, X, G⟩ := c.m; exact He.glo_ok X G (c.c.fact 0 (f := .glo "primes_of") rfl)
theorem Cn.gl_units (c : Cn K mg) : mg "units" = some (.ref (He.ga K "units")) := by obtain ⟨h, X, G⟩ := c.m; exact He.glo_ok X G (c.c.fact 1 (f := .glo "units") rfl)
theorem Cn.gl_symbol_of (c : Cn K mg) : mg "symbol_of" = some (.ref (He.ga K "symbol_of")) := by obtain ⟨h, X, G⟩ := c.m; exact He.glo_ok X G (c.c.fact 2 (f := .glo "symbol_of") rfl)
theorem Cn.gl_symbols (c : Cn K mg) : mg "symbols" = some (.ref (He.ga K "symbols")) := by obtain ⟨h, X, G⟩ := c.m; exact He.glo_ok X G (c.c.fact 3 (f := .glo "symbols") rfl)
theorem Cn.gl_count_symbols (c : Cn K mg) : mg "count_symbols" = some (.ref (He.ga K "count_symbols")) := by obtain ⟨h, X, G⟩ := c.m; exact He.glo_ok X G (c.c.fact 4 (f := .glo "count_symbols") rfl)
theorem Cn.gl_heilbronn (c : Cn K mg) : mg "heilbronn" = some (.ref (He.ga K "heilbronn")) := by obtain ⟨h, X, G⟩ := c.m; exact He.glo_ok X G (c.c.fact 5 (f := .glo "heilbronn") rfl)
theorem Cn.gl_image (c : Cn K mg) : mg "image" = some (.ref (He.ga K "image")) := by obtain ⟨h, X, G⟩ := c.m; exact He.glo_ok X G (c.c.fact 6 (f := .glo "image") rfl)
theorem Cn.gl__law_state (c : Cn K mg) : mg "_law_state" = some (.ref (He.ga K "_law_state")) := by obtain ⟨h, X, G⟩ := c.m; exact He.glo_ok X G (c.c.fact 7 (f := .glo "_law_state") rfl)
theorem Cn.gl__law_draw (c : Cn K mg) : mg "_law_draw" = some (.ref (He.ga K "_law_draw")) := by obtain ⟨h, X, G⟩ := c.m; exact He.glo_ok X G (c.c.fact 8 (f := .glo "_law_draw") rfl)
theorem Cn.gl__law_pick (c : Cn K mg) : mg "_law_pick" = some (.ref (He.ga K "_law_pick")) := by obtain ⟨h, X, G⟩ := c.m; exact He.glo_ok X G (c.c.fact 9 (f := .glo "_law_pick") rfl)
theorem Cn.gl__law_eq (c : Cn K mg) : mg "_law_eq" = some (.ref (He.ga K "_law_eq")) := by obtain ⟨h, X, G⟩ := c.m; exact He.glo_ok X G (c.c.fact 10 (f := .glo "_law_eq") rfl)
theorem Cn.gl__law_gcd (c : Cn K mg) : mg "_law_gcd" = some (.ref (He.ga K "_law_gcd")) := by obtain ⟨h, X, G⟩ := c.m; exact He.glo_ok X G (c.c.fact 11 (f := .glo "_law_gcd") rfl)
theorem Cn.gl__law_symbol (c : Cn K mg) : mg "_law_symbol" = some (.ref (He.ga K "_law_symbol")) := by obtain ⟨h, X, G⟩ := c.m; exact He.glo_ok X G (c.c.fact 12 (f := .glo "_law_symbol") rfl)
theorem Cn.gl__law_heilbronn (c : Cn K mg) : mg "_law_heilbronn" = some (.ref (He.ga K "_law_heilbronn")) := by obtain ⟨h, X, G⟩ := c.m; exact He.glo_ok X G (c.c.fact 13 (f := .glo "_law_heilbronn") rfl)
theorem Cn.gl__law_symbols (c : Cn K mg) : mg "_law_symbols" = some (.ref (He.ga K "_law_symbols")) := by obtain ⟨h, X, G⟩ := c.m; exact He.glo_ok X G (c.c.fact 14 (f := .glo "_law_symbols") rfl)
theorem Cn.gl__law_image (c : Cn K mg) : mg "_law_image" = some (.ref (He.ga K "_law_image")) := by obtain ⟨h, X, G⟩ := c.m; exact He.glo_ok X G (c.c.fact 15 (f := .glo "_law_image") rfl)
theorem Cn.gl_law (c : Cn K mg) : mg "law" = some (.ref (He.ga K "law")) := by obtain ⟨h, X, G⟩ := c.m; exact He.glo_ok X G (c.c.fact 16 (f := .glo "law") rfl)
theorem Cn.fr_range (c : Cn K mg) : mg "range" = none := by obtain ⟨h, X, G⟩ := c.m; exact He.free_ok X G (c.c.fact 17 (f := .free "range") rfl)
theorem Cn.fr_all (c : Cn K mg) : mg "all" = none := by obtain ⟨h, X, G⟩ := c.m; exact He.free_ok X G (c.c.fact 18 (f := .free "all") rfl)
theorem Cn.fr_min (c : Cn K mg) : mg "min" = none := by obtain ⟨h, X, G⟩ := c.m; exact He.free_ok X G (c.c.fact 19 (f := .free "min") rfl)
theorem Cn.fr_sorted (c : Cn K mg) : mg "sorted" = none := by obtain ⟨h, X, G⟩ := c.m; exact He.free_ok X G (c.c.fact 20 (f := .free "sorted") rfl)
theorem Cn.fr_enumerate (c : Cn K mg) : mg "enumerate" = none := by obtain ⟨h, X, G⟩ := c.m; exact He.free_ok X G (c.c.fact 21 (f := .free "enumerate") rfl)
theorem Cn.fr_int (c : Cn K mg) : mg "int" = none := by obtain ⟨h, X, G⟩ := c.m; exact He.free_ok X G (c.c.fact 22 (f := .free "int") rfl)
theorem Cn.fr_abs (c : Cn K mg) : mg "abs" = none := by obtain ⟨h, X, G⟩ := c.m; exact He.free_ok X G (c.c.fact 23 (f := .free "abs") rfl)
theorem Cn.fr_len (c : Cn K mg) : mg "len" = none := by obtain ⟨h, X, G⟩ := c.m; exact He.free_ok X G (c.c.fact 24 (f := .free "len") rfl)
theorem Cn.fr_list (c : Cn K mg) : mg "list" = none := by obtain ⟨h, X, G⟩ := c.m; exact He.free_ok X G (c.c.fact 25 (f := .free "list") rfl)
theorem Cn.fr_isinstance (c : Cn K mg) : mg "isinstance" = none := by obtain ⟨h, X, G⟩ := c.m; exact He.free_ok X G (c.c.fact 26 (f := .free "isinstance") rfl)
theorem Cn.fr_tuple (c : Cn K mg) : mg "tuple" = none := by obtain ⟨h, X, G⟩ := c.m; exact He.free_ok X G (c.c.fact 27 (f := .free "tuple") rfl)
theorem Cn.fr_str (c : Cn K mg) : mg "str" = none := by obtain ⟨h, X, G⟩ := c.m; exact He.free_ok X G (c.c.fact 28 (f := .free "str") rfl)
theorem Cn.fr_bool (c : Cn K mg) : mg "bool" = none := by obtain ⟨h, X, G⟩ := c.m; exact He.free_ok X G (c.c.fact 29 (f := .free "bool") rfl)
theorem Cn.fr_max (c : Cn K mg) : mg "max" = none := by obtain ⟨h, X, G⟩ := c.m; exact He.free_ok X G (c.c.fact 30 (f := .free "max") rfl)
theorem Cn.mg_gcd (c : Cn K mg) : mg "gcd" = some (.builtin "math.gcd") := by obtain ⟨h, X, G⟩ := c.m; exact gx_at X G c.g 0 rfl
end
def OkD (P : Program) (w : World) (K : PySem.W.Frag) (mg : Str → Option Value) (base : Heap) (x : Str) (k : Nat) (ps : List Str) (f : Fn) : Prop := ∃ fd : FuncData, FnOk P w K mg base CX0 k (He.ga K x) fd ps (spM K ps.length f) ∧ PySem.W.keepIn K (.ref (He.ga K x)) = true ∧ Binds K fd ps []
/-! ### each def: its meaning, and that it keeps it -/
abbrev N_primes_of : List Str := ["n", "told", "p", "q"]
theorem sc_primes_of : FnScope N_primes_of ["n"] (defScope (top 2)) := ⟨rfl, rfl, rfl, by decide +kernel, rfl, by decide +kernel, by decide +kernel⟩
theorem blk_primes_of_0 : BlkOk N_primes_of (defScope (top 2)) ⟨.function, [(".0", .local), ("q", .local), ("p", .free)], false, false, []⟩ [("q", 3)] := ⟨rfl, by decide +kernel, by decide +kernel, by decide +kernel, by decide +kernel⟩
noncomputable def b_primes_of : XS := xseq (xasg 1 (xcel (xlst xnil))) (xseq (xfor (xirng2 (xc (.int 2)) (xop addF (xvar 0) (xc (.int 1)))) (xgname 2) (xifS (xtand (xtb (xop eqF (xop modF (xvar 0) (xvar 2)) (xc (.int 0)))) (xtru (xcall allF (xcons (xval (xlc (xit (xvar 1)) [3] (xgname 3) xtt (xop neF (xop modF (xvar 2) (xvar 3)) (xc (.int 0))))) xnil)))) (xexpr (xmeth isLs appF (xvar 1) (xcons (xvar 2) xnil))) xskip)) (xret (xvar 1)))
noncomputable def f_primes_of : Fn := defn 4 b_primes_of
theorem ok_primes_of {P : Program} {w : World} {K : PySem.W.Frag} {mg : Str → Option Value} {base : Heap} (c : Cn K mg) : OkD P w K mg base "primes_of" 1 ["n"] f_primes_of := by
  obtain ⟨fd, F0⟩ := c.c.def_ 0 (d := dd ("primes_of", 2)) rfl
  have F : FunD K "primes_of" "primes_of" (defArgs (top 2)) (defBody (top 2)) (defScope (top 2)) [] [] (He.ga K "primes_of") fd := F0
  refine ⟨fd, fn_okD (N := N_primes_of) (k := 0) F sc_primes_of (fun cdv A outer s H E hr => ?_), F.kp, F.bindsN fun _ _ _ _ _ _ us hl => match us, hl with | [_], _ => rfl⟩
  have hN : N_primes_of.Nodup := sc_primes_of.nd
  have hu65 : (A.deeper (envOfC "primes_of" (defScope (top 2)) s.heap.objs.size (He.ga K "primes_of") cdv)).units + 65 < cLine := by have := hr.un; omega
  have hu64 : (A.deeper (envOfC "primes_of" (defScope (top 2)) s.heap.objs.size (He.ga K "primes_of") cdv)).units + 64 < cLine := by have := hr.un; omega
  have hu1 : (A.deeper (envOfC "primes_of" (defScope (top 2)) s.heap.objs.size (He.ga K "primes_of") cdv)).units + 1 < cLine := by have := hr.un; omega
  have hu0 : (A.deeper (envOfC "primes_of" (defScope (top 2)) s.heap.objs.size (He.ga K "primes_of") cdv)).units < cLine := by have := hr.un; omega
  exact xss_cons (xs_set (i := 1) hN rfl (.inl rfl) (xe_cel (xl_lst xa_nil)))
        (xss_cons (xs_for PassesOwn.never rfl (xi_rng2 rfl c.fr_range xe_int (xe_op fo_add (xe_var (i := 0) rfl (.inl rfl)) xe_int)) (xg_name (i := 2) hN rfl (.inr rfl)) (xss_one (xs_if (PW.pt (xw_and (xt_cmp (fo_eq hu64) (xe_op fo_mod (xe_var (i := 0) rfl (.inl rfl)) (xe_var (i := 2) rfl (.inr (.inl rfl)))) xe_int rfl) (xw_and1 (xt_tru (xe_callB (fc_all rfl) rfl c.fr_all bb_all (xa_cons (xe_val (xl_lc (own := [("q", 3)]) rfl hN (xi_any (xe_var (i := 1) rfl (.inl rfl))) blk_primes_of_0 (fun _ _ _ _ _ => xg_name (i := 3) hN rfl (by first | exact .inl rfl | exact .inr rfl)) (fun _ _ _ _ _ => xts_nil) (fun _ _ _ _ _ => xe_cmp (fo_ne hu64) (xe_op fo_mod (xe_var (i := 2) rfl (by first | exact .inl rfl | exact .inr (.inl rfl) | exact .inr (.inr rfl))) (xe_var (i := 3) rfl (by first | exact .inl rfl | exact .inr (.inl rfl) | exact .inr (.inr rfl)))) xe_int rfl))) xa_nil)))))) (xss_one (xs_expr (xe_bm PySem.F.plainAttrs_list PySem.F.slot_list_append PySem.F.type_list_append ty_list fm_app (xe_var (i := 1) rfl (.inl rfl)) (xa_cons (xe_var (i := 2) rfl (.inr (.inl rfl))) xa_nil)))) xss_nil)))
        (xss_one (xs_ret (xe_var (i := 1) rfl (.inl rfl)))))
abbrev N_units : List Str := ["n", "a"]
theorem sc_units : FnScope N_units ["n"] (defScope (top 3)) := ⟨rfl, rfl, rfl, by decide +kernel, rfl, by decide +kernel, by decide +kernel⟩
theorem blk_units_0 : BlkOk N_units (defScope (top 3)) ⟨.function, [(".0", .local), ("a", .local), ("gcd", .globalImplicit), ("n", .free)], false, false, []⟩ [("a", 1)] := ⟨rfl, by decide +kernel, by decide +kernel, by decide +kernel, by decide +kernel⟩
noncomputable def b_units : XS := xret (xval (xlc (xirng1 (xvar 0)) [1] (xgname 1) (xtb (xop eqF (xcall gcdF (xcons (xvar 1) (xcons (xvar 0) xnil))) (xc (.int 1)))) (xvar 1)))
noncomputable def f_units : Fn := defn 2 b_units
theorem ok_units {P : Program} {w : World} {K : PySem.W.Frag} {mg : Str → Option Value} {base : Heap} (c : Cn K mg) : OkD P w K mg base "units" 1 ["n"] f_units := by
  obtain ⟨fd, F0⟩ := c.c.def_ 1 (d := dd ("units", 3)) rfl
  have F : FunD K "units" "units" (defArgs (top 3)) (defBody (top 3)) (defScope (top 3)) [] [] (He.ga K "units") fd := F0
  refine ⟨fd, fn_okD (N := N_units) (k := 0) F sc_units (fun cdv A outer s H E hr => ?_), F.kp, F.bindsN fun _ _ _ _ _ _ us hl => match us, hl with | [_], _ => rfl⟩
  have hN : N_units.Nodup := sc_units.nd
  have hu65 : (A.deeper (envOfC "units" (defScope (top 3)) s.heap.objs.size (He.ga K "units") cdv)).units + 65 < cLine := by have := hr.un; omega
  have hu64 : (A.deeper (envOfC "units" (defScope (top 3)) s.heap.objs.size (He.ga K "units") cdv)).units + 64 < cLine := by have := hr.un; omega
  have hu1 : (A.deeper (envOfC "units" (defScope (top 3)) s.heap.objs.size (He.ga K "units") cdv)).units + 1 < cLine := by have := hr.un; omega
  have hu0 : (A.deeper (envOfC "units" (defScope (top 3)) s.heap.objs.size (He.ga K "units") cdv)).units < cLine := by have := hr.un; omega
  exact xss_one (xs_ret (xe_val (xl_lc (own := [("a", 1)]) rfl hN (xi_rng1 rfl c.fr_range (xe_var (i := 0) rfl (.inr (.inl rfl)))) blk_units_0 (fun _ _ _ _ _ => xg_name (i := 1) hN rfl (by first | exact .inl rfl | exact .inr rfl)) (fun _ _ _ _ _ => xts_one (xt_cmp (fo_eq hu64) (xe_callM fc_gcd rfl c.mg_gcd (xa_cons (xe_var (i := 1) rfl (by first | exact .inl rfl | exact .inr (.inl rfl) | exact .inr (.inr rfl))) (xa_cons (xe_var (i := 0) rfl (by first | exact .inl rfl | exact .inr (.inl rfl) | exact .inr (.inr rfl))) xa_nil))) xe_int rfl)) (fun _ _ _ _ _ => xe_var (i := 1) rfl (by first | exact .inl rfl | exact .inr (.inl rfl) | exact .inr (.inr rfl))))))
abbrev N_symbol_of : List Str := ["n", "c", "d", "unit"]
theorem sc_symbol_of : FnScope N_symbol_of ["n", "c", "d"] (defScope (top 4)) := ⟨rfl, rfl, rfl, by decide +kernel, rfl, by decide +kernel, by decide +kernel⟩
theorem blk_symbol_of_0 : BlkOk N_symbol_of (defScope (top 4)) ⟨.function, [(".0", .local), ("unit", .local), ("c", .free), ("d", .free), ("n", .free)], false, false, []⟩ [("unit", 3)] := ⟨rfl, by decide +kernel, by decide +kernel, by decide +kernel, by decide +kernel⟩
noncomputable def b_symbol_of : XS := xseq (xifS (xtb (xop neF (xcall gcdF (xcons (xcall gcdF (xcons (xvar 1) (xcons (xvar 2) xnil))) (xcons (xvar 0) xnil))) (xc (.int 1)))) (xret (xc .non)) xskip) (xret (xcall minF (xcons (xval (xlc (xit (xcallP f_units (xcons (xvar 0) xnil))) [3] (xgname 3) xtt (xtup true (xcons (xop modF (xop mulF (xvar 3) (xvar 1)) (xvar 0)) (xcons (xop modF (xop mulF (xvar 3) (xvar 2)) (xvar 0)) xnil))))) xnil)))
noncomputable def f_symbol_of : Fn := defn 4 b_symbol_of
theorem ok_symbol_of {P : Program} {w : World} {K : PySem.W.Frag} {mg : Str → Option Value} {base : Heap} (c : Cn K mg) : OkD P w K mg base "symbol_of" 2 ["n", "c", "d"] f_symbol_of := by
  obtain ⟨fd, F0⟩ := c.c.def_ 2 (d := dd ("symbol_of", 4)) rfl
  have F : FunD K "symbol_of" "symbol_of" (defArgs (top 4)) (defBody (top 4)) (defScope (top 4)) [] [] (He.ga K "symbol_of") fd := F0
  obtain ⟨fd_units, G_units, k_units, b_units⟩ := ok_units (P := P) (w := w) (base := base) c
  refine ⟨fd, fn_okD (N := N_symbol_of) (k := 1) F sc_symbol_of (fun cdv A outer s H E hr => ?_), F.kp, F.bindsN fun _ _ _ _ _ _ us hl => match us, hl with | [_, _, _], _ => rfl⟩
  have hN : N_symbol_of.Nodup := sc_symbol_of.nd
  have hu65 : (A.deeper (envOfC "symbol_of" (defScope (top 4)) s.heap.objs.size (He.ga K "symbol_of") cdv)).units + 65 < cLine := by have := hr.un; omega
  have hu64 : (A.deeper (envOfC "symbol_of" (defScope (top 4)) s.heap.objs.size (He.ga K "symbol_of") cdv)).units + 64 < cLine := by have := hr.un; omega
  have hu1 : (A.deeper (envOfC "symbol_of" (defScope (top 4)) s.heap.objs.size (He.ga K "symbol_of") cdv)).units + 1 < cLine := by have := hr.un; omega
  have hu0 : (A.deeper (envOfC "symbol_of" (defScope (top 4)) s.heap.objs.size (He.ga K "symbol_of") cdv)).units < cLine := by have := hr.un; omega
  exact xss_cons (xs_if (xt_cmp (fo_ne hu64) (xe_callM fc_gcd rfl c.mg_gcd (xa_cons (xe_callM fc_gcd rfl c.mg_gcd (xa_cons (xe_var (i := 1) rfl (.inr (.inl rfl))) (xa_cons (xe_var (i := 2) rfl (.inr (.inl rfl))) xa_nil))) (xa_cons (xe_var (i := 0) rfl (.inr (.inl rfl))) xa_nil))) xe_int rfl) (xss_one (xs_ret xe_non)) xss_nil)
        (xss_one (xs_ret (xe_callB (fc_min rfl hu1) rfl c.fr_min bb_min (xa_cons (xe_val (xl_lc (own := [("unit", 3)]) rfl hN (xi_any (xe_callP G_units (hr.mono (by decide)) rfl (c.gl_units) k_units b_units (xa_cons (xe_var (i := 0) rfl (.inr (.inl rfl))) xa_nil) (xcons_len xnil_len))) blk_symbol_of_0 (fun _ _ _ _ _ => xg_name (i := 3) hN rfl (by first | exact .inl rfl | exact .inr rfl)) (fun _ _ _ _ _ => xts_nil) (fun _ _ _ _ _ => xe_tup true (xa_cons (xe_op fo_mod (xe_op fo_mul (xe_var (i := 3) rfl (by first | exact .inl rfl | exact .inr (.inl rfl) | exact .inr (.inr rfl))) (xe_var (i := 1) rfl (by first | exact .inl rfl | exact .inr (.inl rfl) | exact .inr (.inr rfl)))) (xe_var (i := 0) rfl (by first | exact .inl rfl | exact .inr (.inl rfl) | exact .inr (.inr rfl)))) (xa_cons (xe_op fo_mod (xe_op fo_mul (xe_var (i := 3) rfl (by first | exact .inl rfl | exact .inr (.inl rfl) | exact .inr (.inr rfl))) (xe_var (i := 2) rfl (by first | exact .inl rfl | exact .inr (.inl rfl) | exact .inr (.inr rfl)))) (xe_var (i := 0) rfl (by first | exact .inl rfl | exact .inr (.inl rfl) | exact .inr (.inr rfl)))) xa_nil))))) xa_nil))))
abbrev N_symbols : List Str := ["n", "found", "c", "d", "told"]
theorem sc_symbols : FnScope N_symbols ["n"] (defScope (top 5)) := ⟨rfl, rfl, rfl, by decide +kernel, rfl, by decide +kernel, by decide +kernel⟩
noncomputable def b_symbols : XS := xseq (xasg 1 xdnT) (xseq (xfor (xirng1 (xvar 0)) (xgname 2) (xifS (xtor (xtb (xop eqF (xvar 2) (xc (.int 0)))) (xtb (xop eqF (xop modF (xvar 0) (xvar 2)) (xc (.int 0))))) (xfor (xirng1 (xvar 0)) (xgname 3) (xseq (xasg 4 (xcallP f_symbol_of (xcons (xvar 0) (xcons (xvar 2) (xcons (xvar 3) xnil))))) (xifS (xtb (xop notNF (xvar 4) (xc .non))) (xasgG (xgsub (xvar 1) (xvar 4)) (xc (.bl true))) xskip))) xskip)) (xret (xval (xcallL sortF (xcons (xvar 1) xnil)))))
noncomputable def f_symbols : Fn := defn 5 b_symbols
theorem ok_symbols {P : Program} {w : World} {K : PySem.W.Frag} {mg : Str → Option Value} {base : Heap} (c : Cn K mg) : OkD P w K mg base "symbols" 3 ["n"] f_symbols := by
  obtain ⟨fd, F0⟩ := c.c.def_ 3 (d := dd ("symbols", 5)) rfl
  have F : FunD K "symbols" "symbols" (defArgs (top 5)) (defBody (top 5)) (defScope (top 5)) [] [] (He.ga K "symbols") fd := F0
  obtain ⟨fd_symbol_of, G_symbol_of, k_symbol_of, b_symbol_of⟩ := ok_symbol_of (P := P) (w := w) (base := base) c
  refine ⟨fd, fn_okD (N := N_symbols) (k := 2) F sc_symbols (fun cdv A outer s H E hr => ?_), F.kp, F.bindsN fun _ _ _ _ _ _ us hl => match us, hl with | [_], _ => rfl⟩
  have hN : N_symbols.Nodup := sc_symbols.nd
  have hu65 : (A.deeper (envOfC "symbols" (defScope (top 5)) s.heap.objs.size (He.ga K "symbols") cdv)).units + 65 < cLine := by have := hr.un; omega
  have hu64 : (A.deeper (envOfC "symbols" (defScope (top 5)) s.heap.objs.size (He.ga K "symbols") cdv)).units + 64 < cLine := by have := hr.un; omega
  have hu1 : (A.deeper (envOfC "symbols" (defScope (top 5)) s.heap.objs.size (He.ga K "symbols") cdv)).units + 1 < cLine := by have := hr.un; omega
  have hu0 : (A.deeper (envOfC "symbols" (defScope (top 5)) s.heap.objs.size (He.ga K "symbols") cdv)).units < cLine := by have := hr.un; omega
  exact xss_cons (xs_set (i := 1) hN rfl (.inl rfl) xe_dnT)
        (xss_cons (xs_for PassesOwn.never rfl (xi_rng1 rfl c.fr_range (xe_var (i := 0) rfl (.inl rfl))) (xg_name (i := 2) hN rfl (.inl rfl)) (xss_one (xs_if (PW.pt (xw_or (xt_cmp (fo_eq hu64) (xe_var (i := 2) rfl (.inl rfl)) xe_int rfl) (xw_or1 (xt_cmp (fo_eq hu64) (xe_op fo_mod (xe_var (i := 0) rfl (.inl rfl)) (xe_var (i := 2) rfl (.inl rfl))) xe_int rfl)))) (xss_one (xs_for PassesOwn.never rfl (xi_rng1 rfl c.fr_range (xe_var (i := 0) rfl (.inl rfl))) (xg_name (i := 3) hN rfl (.inl rfl)) (xss_cons (xs_set (i := 4) hN rfl (.inl rfl) (xe_callP G_symbol_of (hr.mono (by decide)) rfl (c.gl_symbol_of) k_symbol_of b_symbol_of (xa_cons (xe_var (i := 0) rfl (.inl rfl)) (xa_cons (xe_var (i := 2) rfl (.inl rfl)) (xa_cons (xe_var (i := 3) rfl (.inl rfl)) xa_nil))) (xcons_len (xcons_len (xcons_len xnil_len)))))
        (xss_one (xs_if (xt_cmp fo_notN (xe_var (i := 4) rfl (.inl rfl)) xe_non rfl) (xss_one (xs_asg xe_bl (xg_sub hu1 (xe_var (i := 1) rfl (.inl rfl)) (xe_var (i := 4) rfl (.inl rfl))))) xss_nil))))) xss_nil)))
        (xss_one (xs_ret (xe_val (xl_callB (fc_sorted rfl) rfl c.fr_sorted bb_sorted (xa_cons (xe_var (i := 1) rfl (.inl rfl)) xa_nil))))))
abbrev N_count_symbols : List Str := ["n", "told", "p"]
theorem sc_count_symbols : FnScope N_count_symbols ["n"] (defScope (top 6)) := ⟨rfl, rfl, rfl, by decide +kernel, rfl, by decide +kernel, by decide +kernel⟩
noncomputable def b_count_symbols : XS := xseq (xasg 1 (xvar 0)) (xseq (xfor (xit (xcallP f_primes_of (xcons (xvar 0) xnil))) (xgname 2) (xasg 1 (xop mulF (xop fdivF (xvar 1) (xvar 2)) (xop addF (xvar 2) (xc (.int 1)))))) (xret (xvar 1)))
noncomputable def f_count_symbols : Fn := defn 3 b_count_symbols
theorem ok_count_symbols {P : Program} {w : World} {K : PySem.W.Frag} {mg : Str → Option Value} {base : Heap} (c : Cn K mg) : OkD P w K mg base "count_symbols" 2 ["n"] f_count_symbols := by
  obtain ⟨fd, F0⟩ := c.c.def_ 4 (d := dd ("count_symbols", 6)) rfl
  have F : FunD K "count_symbols" "count_symbols" (defArgs (top 6)) (defBody (top 6)) (defScope (top 6)) [] [] (He.ga K "count_symbols") fd := F0
  obtain ⟨fd_primes_of, G_primes_of, k_primes_of, b_primes_of⟩ := ok_primes_of (P := P) (w := w) (base := base) c
  refine ⟨fd, fn_okD (N := N_count_symbols) (k := 1) F sc_count_symbols (fun cdv A outer s H E hr => ?_), F.kp, F.bindsN fun _ _ _ _ _ _ us hl => match us, hl with | [_], _ => rfl⟩
  have hN : N_count_symbols.Nodup := sc_count_symbols.nd
  have hu65 : (A.deeper (envOfC "count_symbols" (defScope (top 6)) s.heap.objs.size (He.ga K "count_symbols") cdv)).units + 65 < cLine := by have := hr.un; omega
  have hu64 : (A.deeper (envOfC "count_symbols" (defScope (top 6)) s.heap.objs.size (He.ga K "count_symbols") cdv)).units + 64 < cLine := by have := hr.un; omega
  have hu1 : (A.deeper (envOfC "count_symbols" (defScope (top 6)) s.heap.objs.size (He.ga K "count_symbols") cdv)).units + 1 < cLine := by have := hr.un; omega
  have hu0 : (A.deeper (envOfC "count_symbols" (defScope (top 6)) s.heap.objs.size (He.ga K "count_symbols") cdv)).units < cLine := by have := hr.un; omega
  exact xss_cons (xs_set (i := 1) hN rfl (.inl rfl) (xe_var (i := 0) rfl (.inl rfl)))
        (xss_cons (xs_for PassesOwn.never rfl (xi_any (xe_callP G_primes_of (hr.mono (by decide)) rfl (c.gl_primes_of) k_primes_of b_primes_of (xa_cons (xe_var (i := 0) rfl (.inl rfl)) xa_nil) (xcons_len xnil_len))) (xg_name (i := 2) hN rfl (.inl rfl)) (xss_one (xs_set (i := 1) hN rfl (.inl rfl) (xe_op fo_mul (xe_op fo_fdiv (xe_var (i := 1) rfl (.inl rfl)) (xe_var (i := 2) rfl (.inl rfl))) (xe_op fo_add (xe_var (i := 2) rfl (.inl rfl)) xe_int)))))
        (xss_one (xs_ret (xe_var (i := 1) rfl (.inl rfl)))))
abbrev N_heilbronn : List Str := ["p", "told", "a", "b", "c"]
theorem sc_heilbronn : FnScope N_heilbronn ["p"] (defScope (top 8)) := ⟨rfl, rfl, rfl, by decide +kernel, rfl, by decide +kernel, by decide +kernel⟩
noncomputable def b_heilbronn : XS := xseq (xasg 1 (xcel (xlst xnil))) (xseq (xfor (xirng2 (xc (.int 1)) (xop addF (xvar 0) (xc (.int 1)))) (xgname 2) (xfor (xirng1 (xvar 2)) (xgname 3) (xfor (xirng1 (xop addF (xvar 0) (xc (.int 1)))) (xgname 4) (xifS (xtand (xtb (xop eqF (xop modF (xop addF (xvar 0) (xop mulF (xvar 3) (xvar 4))) (xvar 2)) (xc (.int 0)))) (xtb (xop gtF (xop fdivF (xop addF (xvar 0) (xop mulF (xvar 3) (xvar 4))) (xvar 2)) (xvar 4)))) (xexpr (xmeth isLs appF (xvar 1) (xcons (xtup true (xcons (xvar 2) (xcons (xvar 3) (xcons (xvar 4) (xcons (xop fdivF (xop addF (xvar 0) (xop mulF (xvar 3) (xvar 4))) (xvar 2)) xnil))))) xnil))) xskip)))) (xret (xval (xcallL sortF (xcons (xvar 1) xnil)))))
noncomputable def f_heilbronn : Fn := defn 5 b_heilbronn
theorem ok_heilbronn {P : Program} {w : World} {K : PySem.W.Frag} {mg : Str → Option Value} {base : Heap} (c : Cn K mg) : OkD P w K mg base "heilbronn" 1 ["p"] f_heilbronn := by
  obtain ⟨fd, F0⟩ := c.c.def_ 5 (d := dd ("heilbronn", 8)) rfl
  have F : FunD K "heilbronn" "heilbronn" (defArgs (top 8)) (defBody (top 8)) (defScope (top 8)) [] [] (He.ga K "heilbronn") fd := F0
  refine ⟨fd, fn_okD (N := N_heilbronn) (k := 0) F sc_heilbronn (fun cdv A outer s H E hr => ?_), F.kp, F.bindsN fun _ _ _ _ _ _ us hl => match us, hl with | [_], _ => rfl⟩
  have hN : N_heilbronn.Nodup := sc_heilbronn.nd
  have hu65 : (A.deeper (envOfC "heilbronn" (defScope (top 8)) s.heap.objs.size (He.ga K "heilbronn") cdv)).units + 65 < cLine := by have := hr.un; omega
  have hu64 : (A.deeper (envOfC "heilbronn" (defScope (top 8)) s.heap.objs.size (He.ga K "heilbronn") cdv)).units + 64 < cLine := by have := hr.un; omega
  have hu1 : (A.deeper (envOfC "heilbronn" (defScope (top 8)) s.heap.objs.size (He.ga K "heilbronn") cdv)).units + 1 < cLine := by have := hr.un; omega
  have hu0 : (A.deeper (envOfC "heilbronn" (defScope (top 8)) s.heap.objs.size (He.ga K "heilbronn") cdv)).units < cLine := by have := hr.un; omega
  exact xss_cons (xs_set (i := 1) hN rfl (.inl rfl) (xe_cel (xl_lst xa_nil)))
        (xss_cons (xs_for PassesOwn.never rfl (xi_rng2 rfl c.fr_range xe_int (xe_op fo_add (xe_var (i := 0) rfl (.inl rfl)) xe_int)) (xg_name (i := 2) hN rfl (.inl rfl)) (xss_one (xs_for PassesOwn.never rfl (xi_rng1 rfl c.fr_range (xe_var (i := 2) rfl (.inl rfl))) (xg_name (i := 3) hN rfl (.inl rfl)) (xss_one (xs_for PassesOwn.never rfl (xi_rng1 rfl c.fr_range (xe_op fo_add (xe_var (i := 0) rfl (.inl rfl)) xe_int)) (xg_name (i := 4) hN rfl (.inl rfl)) (xss_one (xs_if (PW.pt (xw_and (xt_cmp (fo_eq hu64) (xe_op fo_mod (xe_op fo_add (xe_var (i := 0) rfl (.inl rfl)) (xe_op fo_mul (xe_var (i := 3) rfl (.inl rfl)) (xe_var (i := 4) rfl (.inl rfl)))) (xe_var (i := 2) rfl (.inl rfl))) xe_int rfl) (xw_and1 (xt_cmp fo_gt (xe_op fo_fdiv (xe_op fo_add (xe_var (i := 0) rfl (.inl rfl)) (xe_op fo_mul (xe_var (i := 3) rfl (.inl rfl)) (xe_var (i := 4) rfl (.inl rfl)))) (xe_var (i := 2) rfl (.inl rfl))) (xe_var (i := 4) rfl (.inl rfl)) rfl)))) (xss_one (xs_expr (xe_bm PySem.F.plainAttrs_list PySem.F.slot_list_append PySem.F.type_list_append ty_list fm_app (xe_var (i := 1) rfl (.inl rfl)) (xa_cons (xe_tup true (xa_cons (xe_var (i := 2) rfl (.inl rfl)) (xa_cons (xe_var (i := 3) rfl (.inl rfl)) (xa_cons (xe_var (i := 4) rfl (.inl rfl)) (xa_cons (xe_op fo_fdiv (xe_op fo_add (xe_var (i := 0) rfl (.inl rfl)) (xe_op fo_mul (xe_var (i := 3) rfl (.inl rfl)) (xe_var (i := 4) rfl (.inl rfl)))) (xe_var (i := 2) rfl (.inl rfl))) xa_nil))))) xa_nil)))) xss_nil)))))))
        (xss_one (xs_ret (xe_val (xl_callB (fc_sorted rfl) rfl c.fr_sorted bb_sorted (xa_cons (xe_var (i := 1) rfl (.inl rfl)) xa_nil))))))
abbrev N_image : List Str := ["n", "p", "coset", "rows", "number", "u", "v", "told", "a", "b", "c", "d", "row", "at"]
theorem sc_image : FnScope N_image ["n", "p", "coset"] (defScope (top 9)) := ⟨rfl, rfl, rfl, by decide +kernel, rfl, by decide +kernel, by decide +kernel⟩
theorem blk_image_0 : BlkOk N_image (defScope (top 9)) ⟨.function, [(".0", .local), ("at", .local), ("row", .local)], false, false, []⟩ [("at", 13), ("row", 12)] := ⟨rfl, by decide +kernel, by decide +kernel, by decide +kernel, by decide +kernel⟩
noncomputable def b_image : XS := xseq (xasg 3 (xcallP f_symbols (xcons (xvar 0) xnil))) (xseq (xasg 4 (xdcV true (xienum (xvar 3)) [13, 12] (xgtup 2 (xgcons (xgname 13) (xgcons (xgname 12) xgnil))) xtt (xvar 12) (xvar 13))) (xseq (xasgG (xgtup 2 (xgcons (xgname 5) (xgcons (xgname 6) xgnil))) (xop ixF (xvar 3) (xvar 2))) (xseq (xasg 7 (xcel (xlst xnil))) (xseq (xfor (xit (xcallP f_heilbronn (xcons (xvar 1) xnil))) (xgtup 4 (xgcons (xgname 8) (xgcons (xgname 9) (xgcons (xgname 10) (xgcons (xgname 11) xgnil))))) (xseq (xasg 12 (xcallP f_symbol_of (xcons (xvar 0) (xcons (xop addF (xop mulF (xvar 5) (xvar 8)) (xop mulF (xvar 6) (xvar 10))) (xcons (xop addF (xop mulF (xvar 5) (xvar 9)) (xop mulF (xvar 6) (xvar 11))) xnil))))) (xifS (xtb (xop notNF (xvar 12) (xc .non))) (xexpr (xmeth isLs appF (xvar 7) (xcons (xop ixF (xvar 4) (xvar 12)) xnil))) xskip))) (xret (xval (xcallL sortF (xcons (xvar 7) xnil))))))))
noncomputable def f_image : Fn := defn 14 b_image
theorem ok_image {P : Program} {w : World} {K : PySem.W.Frag} {mg : Str → Option Value} {base : Heap} (c : Cn K mg) : OkD P w K mg base "image" 4 ["n", "p", "coset"] f_image := by
  obtain ⟨fd, F0⟩ := c.c.def_ 6 (d := dd ("image", 9)) rfl
  have F : FunD K "image" "image" (defArgs (top 9)) (defBody (top 9)) (defScope (top 9)) [] [] (He.ga K "image") fd := F0
  obtain ⟨fd_symbols, G_symbols, k_symbols, b_symbols⟩ := ok_symbols (P := P) (w := w) (base := base) c
  obtain ⟨fd_heilbronn, G_heilbronn, k_heilbronn, b_heilbronn⟩ := ok_heilbronn (P := P) (w := w) (base := base) c
  obtain ⟨fd_symbol_of, G_symbol_of, k_symbol_of, b_symbol_of⟩ := ok_symbol_of (P := P) (w := w) (base := base) c
  refine ⟨fd, fn_okD (N := N_image) (k := 3) F sc_image (fun cdv A outer s H E hr => ?_), F.kp, F.bindsN fun _ _ _ _ _ _ us hl => match us, hl with | [_, _, _], _ => rfl⟩
  have hN : N_image.Nodup := sc_image.nd
  have hu65 : (A.deeper (envOfC "image" (defScope (top 9)) s.heap.objs.size (He.ga K "image") cdv)).units + 65 < cLine := by have := hr.un; omega
  have hu64 : (A.deeper (envOfC "image" (defScope (top 9)) s.heap.objs.size (He.ga K "image") cdv)).units + 64 < cLine := by have := hr.un; omega
  have hu1 : (A.deeper (envOfC "image" (defScope (top 9)) s.heap.objs.size (He.ga K "image") cdv)).units + 1 < cLine := by have := hr.un; omega
  have hu0 : (A.deeper (envOfC "image" (defScope (top 9)) s.heap.objs.size (He.ga K "image") cdv)).units < cLine := by have := hr.un; omega
  exact xss_cons (xs_set (i := 3) hN rfl (.inl rfl) (xe_callP G_symbols (hr.mono (by decide)) rfl (c.gl_symbols) k_symbols b_symbols (xa_cons (xe_var (i := 0) rfl (.inl rfl)) xa_nil) (xcons_len xnil_len)))
        (xss_cons (xs_setDcV true (i := 4) (own := [("at", 13), ("row", 12)]) ⟨rfl, hN, hu0, xi_enum rfl c.fr_enumerate (xe_var (i := 3) rfl (.inl rfl)), blk_image_0, (fun _ _ _ _ _ => xg_tup rfl (xgs_cons (xg_name (i := 13) hN rfl (by first | exact .inl rfl | exact .inr rfl)) (xgs_cons (xg_name (i := 12) hN rfl (by first | exact .inl rfl | exact .inr rfl)) xgs_nil))), (fun _ _ _ _ _ => xts_nil), (fun _ _ _ _ _ => xe_var (i := 12) rfl (by first | exact .inl rfl | exact .inr (.inl rfl) | exact .inr (.inr rfl))), (fun _ _ _ _ _ => xe_var (i := 13) rfl (by first | exact .inl rfl | exact .inr (.inl rfl) | exact .inr (.inr rfl))), fun _ => rfl⟩ rfl rfl (swd_true rfl rfl rfl rfl))
        (xss_cons (xs_asg (xe_ix hu1 (xe_var (i := 3) rfl (.inl rfl)) (xe_var (i := 2) rfl (.inl rfl))) (xg_tup rfl (xgs_cons (xg_name (i := 5) hN rfl (.inl rfl)) (xgs_cons (xg_name (i := 6) hN rfl (.inl rfl)) xgs_nil))))
        (xss_cons (xs_set (i := 7) hN rfl (.inl rfl) (xe_cel (xl_lst xa_nil)))
        (xss_cons (xs_for PassesOwn.never rfl (xi_any (xe_callP G_heilbronn (hr.mono (by decide)) rfl (c.gl_heilbronn) k_heilbronn b_heilbronn (xa_cons (xe_var (i := 1) rfl (.inl rfl)) xa_nil) (xcons_len xnil_len))) (xg_tup rfl (xgs_cons (xg_name (i := 8) hN rfl (.inl rfl)) (xgs_cons (xg_name (i := 9) hN rfl (.inl rfl)) (xgs_cons (xg_name (i := 10) hN rfl (.inl rfl)) (xgs_cons (xg_name (i := 11) hN rfl (.inl rfl)) xgs_nil))))) (xss_cons (xs_set (i := 12) hN rfl (.inl rfl) (xe_callP G_symbol_of (hr.mono (by decide)) rfl (c.gl_symbol_of) k_symbol_of b_symbol_of (xa_cons (xe_var (i := 0) rfl (.inl rfl)) (xa_cons (xe_op fo_add (xe_op fo_mul (xe_var (i := 5) rfl (.inl rfl)) (xe_var (i := 8) rfl (.inl rfl))) (xe_op fo_mul (xe_var (i := 6) rfl (.inl rfl)) (xe_var (i := 10) rfl (.inl rfl)))) (xa_cons (xe_op fo_add (xe_op fo_mul (xe_var (i := 5) rfl (.inl rfl)) (xe_var (i := 9) rfl (.inl rfl))) (xe_op fo_mul (xe_var (i := 6) rfl (.inl rfl)) (xe_var (i := 11) rfl (.inl rfl)))) xa_nil))) (xcons_len (xcons_len (xcons_len xnil_len)))))
        (xss_one (xs_if (xt_cmp fo_notN (xe_var (i := 12) rfl (.inl rfl)) xe_non rfl) (xss_one (xs_expr (xe_bm PySem.F.plainAttrs_list PySem.F.slot_list_append PySem.F.type_list_append ty_list fm_app (xe_var (i := 7) rfl (.inl rfl)) (xa_cons (xe_ix hu1 (xe_var (i := 4) rfl (.inl rfl)) (xe_var (i := 12) rfl (.inl rfl))) xa_nil)))) xss_nil))))
        (xss_one (xs_ret (xe_val (xl_callB (fc_sorted rfl) rfl c.fr_sorted bb_sorted (xa_cons (xe_var (i := 7) rfl (.inl rfl)) xa_nil)))))))))
abbrev N__law_state : List Str := ["script", "seed", "cell"]
theorem sc__law_state : FnScope N__law_state ["script"] (defScope (top 11)) := ⟨rfl, rfl, rfl, by decide +kernel, rfl, by decide +kernel, by decide +kernel⟩
theorem blk__law_state_0 : BlkOk N__law_state (defScope (top 11)) ⟨.function, [(".0", .local), ("cell", .local), ("abs", .globalImplicit)], false, false, []⟩ [("cell", 2)] := ⟨rfl, by decide +kernel, by decide +kernel, by decide +kernel, by decide +kernel⟩
noncomputable def b__law_state : XS := xseq (xasg 1 (xc (.int 7))) (xseq (xfor (xit (xvar 0)) (xgname 2) (xasg 1 (xop modF (xcall intF (xcons (xop addF (xop mulF (xvar 1) (xc (.int 31))) (xvar 2)) xnil)) (xc (.int 1000003))))) (xret (xcel (xlst (xcons (xcel (xlc (xit (xvar 0)) [2] (xgname 2) xtt (xcall absF (xcons (xvar 2) xnil)))) (xcons (xop addF (xvar 1) (xc (.int 1))) xnil))))))
noncomputable def f__law_state : Fn := defn 3 b__law_state
theorem ok__law_state {P : Program} {w : World} {K : PySem.W.Frag} {mg : Str → Option Value} {base : Heap} (c : Cn K mg) : OkD P w K mg base "_law_state" 1 ["script"] f__law_state := by
  obtain ⟨fd, F0⟩ := c.c.def_ 7 (d := dd ("_law_state", 11)) rfl
  have F : FunD K "_law_state" "_law_state" (defArgs (top 11)) (defBody (top 11)) (defScope (top 11)) [] [] (He.ga K "_law_state") fd := F0
  refine ⟨fd, fn_okD (N := N__law_state) (k := 0) F sc__law_state (fun cdv A outer s H E hr => ?_), F.kp, F.bindsN fun _ _ _ _ _ _ us hl => match us, hl with | [_], _ => rfl⟩
  have hN : N__law_state.Nodup := sc__law_state.nd
  have hu65 : (A.deeper (envOfC "_law_state" (defScope (top 11)) s.heap.objs.size (He.ga K "_law_state") cdv)).units + 65 < cLine := by have := hr.un; omega
  have hu64 : (A.deeper (envOfC "_law_state" (defScope (top 11)) s.heap.objs.size (He.ga K "_law_state") cdv)).units + 64 < cLine := by have := hr.un; omega
  have hu1 : (A.deeper (envOfC "_law_state" (defScope (top 11)) s.heap.objs.size (He.ga K "_law_state") cdv)).units + 1 < cLine := by have := hr.un; omega
  have hu0 : (A.deeper (envOfC "_law_state" (defScope (top 11)) s.heap.objs.size (He.ga K "_law_state") cdv)).units < cLine := by have := hr.un; omega
  exact xss_cons (xs_set (i := 1) hN rfl (.inl rfl) xe_int)
        (xss_cons (xs_for PassesOwn.never rfl (xi_any (xe_var (i := 0) rfl (.inl rfl))) (xg_name (i := 2) hN rfl (.inl rfl)) (xss_one (xs_set (i := 1) hN rfl (.inl rfl) (xe_op fo_mod (xe_callTy fc_int rfl c.fr_int bb_int (xa_cons (xe_op fo_add (xe_op fo_mul (xe_var (i := 1) rfl (.inl rfl)) xe_int) (xe_var (i := 2) rfl (.inl rfl))) xa_nil)) xe_int))))
        (xss_one (xs_ret (xe_cel (xl_lst (xa_cons (xe_cel (xl_lc (own := [("cell", 2)]) rfl hN (xi_any (xe_var (i := 0) rfl (.inl rfl))) blk__law_state_0 (fun _ _ _ _ _ => xg_name (i := 2) hN rfl (by first | exact .inl rfl | exact .inr rfl)) (fun _ _ _ _ _ => xts_nil) (fun _ _ _ _ _ => xe_callB fc_abs rfl c.fr_abs bb_abs (xa_cons (xe_var (i := 2) rfl (by first | exact .inl rfl | exact .inr (.inl rfl) | exact .inr (.inr rfl))) xa_nil)))) (xa_cons (xe_op fo_add (xe_var (i := 1) rfl (.inl rfl)) xe_int) xa_nil)))))))
abbrev N__law_draw : List Str := ["state", "many", "cells", "value", "mixed"]
theorem sc__law_draw : FnScope N__law_draw ["state", "many"] (defScope (top 12)) := ⟨rfl, rfl, rfl, by decide +kernel, rfl, by decide +kernel, by decide +kernel⟩
noncomputable def b__law_draw : XS := xseq (xasg 2 (xop ixF (xvar 0) (xc (.int 0)))) (xseq (xwhile (xtand (xtb (xop gtF (xcall lenF (xcons (xvar 2) xnil)) (xc (.int 0)))) (xtb (xop eqF (xop ixF (xvar 2) (xc (.int 0))) (xc (.int 0))))) (xexpr (xmeth isLs popAtF (xvar 2) (xcons (xc (.int 0)) xnil)))) (xseq (xifS (xtb (xop gtF (xcall lenF (xcons (xvar 2) xnil)) (xc (.int 0)))) (xseq (xasg 3 (xop ixF (xvar 2) (xc (.int 0)))) (xseq (xasgG (xgsub (xvar 2) (xc (.int 0))) (xop fdivF (xvar 3) (xvar 1))) (xret (xop modF (xcall intF (xcons (xvar 3) xnil)) (xvar 1))))) xskip) (xseq (xasg 4 (xop modF (xcall intF (xcons (xop addF (xop mulF (xop ixF (xvar 0) (xc (.int 1))) (xc (.int 48271))) (xc (.int 12345))) xnil)) (xc (.int 2147483647)))) (xseq (xasgG (xgsub (xvar 0) (xc (.int 1))) (xvar 4)) (xret (xop modF (xcall intF (xcons (xop fdivF (xvar 4) (xc (.int 64))) xnil)) (xvar 1)))))))
noncomputable def f__law_draw : Fn := defn 5 b__law_draw
theorem ok__law_draw {P : Program} {w : World} {K : PySem.W.Frag} {mg : Str → Option Value} {base : Heap} (c : Cn K mg) : OkD P w K mg base "_law_draw" 1 ["state", "many"] f__law_draw := by
  obtain ⟨fd, F0⟩ := c.c.def_ 8 (d := dd ("_law_draw", 12)) rfl
  have F : FunD K "_law_draw" "_law_draw" (defArgs (top 12)) (defBody (top 12)) (defScope (top 12)) [] [] (He.ga K "_law_draw") fd := F0
  refine ⟨fd, fn_okD (N := N__law_draw) (k := 0) F sc__law_draw (fun cdv A outer s H E hr => ?_), F.kp, F.bindsN fun _ _ _ _ _ _ us hl => match us, hl with | [_, _], _ => rfl⟩
  have hN : N__law_draw.Nodup := sc__law_draw.nd
  have hu65 : (A.deeper (envOfC "_law_draw" (defScope (top 12)) s.heap.objs.size (He.ga K "_law_draw") cdv)).units + 65 < cLine := by have := hr.un; omega
  have hu64 : (A.deeper (envOfC "_law_draw" (defScope (top 12)) s.heap.objs.size (He.ga K "_law_draw") cdv)).units + 64 < cLine := by have := hr.un; omega
  have hu1 : (A.deeper (envOfC "_law_draw" (defScope (top 12)) s.heap.objs.size (He.ga K "_law_draw") cdv)).units + 1 < cLine := by have := hr.un; omega
  have hu0 : (A.deeper (envOfC "_law_draw" (defScope (top 12)) s.heap.objs.size (He.ga K "_law_draw") cdv)).units < cLine := by have := hr.un; omega
  exact xss_cons (xs_set (i := 2) hN rfl (.inl rfl) (xe_ix hu1 (xe_var (i := 0) rfl (.inl rfl)) xe_int))
        (xss_cons (xs_while PassesOwn.never (PW.pt (xw_and (xt_cmp fo_gt (xe_callB fc_len rfl c.fr_len bb_len (xa_cons (xe_var (i := 2) rfl (.inl rfl)) xa_nil)) xe_int rfl) (xw_and1 (xt_cmp (fo_eq hu64) (xe_ix hu1 (xe_var (i := 2) rfl (.inl rfl)) xe_int) xe_int rfl)))) (xss_one (xs_expr (xe_bm PySem.F.plainAttrs_list PySem.F.slot_list_pop PySem.F.type_list_pop ty_list fm_popAt (xe_var (i := 2) rfl (.inl rfl)) (xa_cons xe_int xa_nil)))))
        (xss_cons (xs_if (xt_cmp fo_gt (xe_callB fc_len rfl c.fr_len bb_len (xa_cons (xe_var (i := 2) rfl (.inl rfl)) xa_nil)) xe_int rfl) (xss_cons (xs_set (i := 3) hN rfl (.inl rfl) (xe_ix hu1 (xe_var (i := 2) rfl (.inl rfl)) xe_int))
        (xss_cons (xs_asg (xe_op fo_fdiv (xe_var (i := 3) rfl (.inl rfl)) (xe_var (i := 1) rfl (.inl rfl))) (xg_sub hu1 (xe_var (i := 2) rfl (.inl rfl)) xe_int))
        (xss_one (xs_ret (xe_op fo_mod (xe_callTy fc_int rfl c.fr_int bb_int (xa_cons (xe_var (i := 3) rfl (.inl rfl)) xa_nil)) (xe_var (i := 1) rfl (.inl rfl))))))) xss_nil)
        (xss_cons (xs_set (i := 4) hN rfl (.inl rfl) (xe_op fo_mod (xe_callTy fc_int rfl c.fr_int bb_int (xa_cons (xe_op fo_add (xe_op fo_mul (xe_ix hu1 (xe_var (i := 0) rfl (.inl rfl)) xe_int) xe_int) xe_int) xa_nil)) xe_int))
        (xss_cons (xs_asg (xe_var (i := 4) rfl (.inl rfl)) (xg_sub hu1 (xe_var (i := 0) rfl (.inl rfl)) xe_int))
        (xss_one (xs_ret (xe_op fo_mod (xe_callTy fc_int rfl c.fr_int bb_int (xa_cons (xe_op fo_fdiv (xe_var (i := 4) rfl (.inl rfl)) xe_int) xa_nil)) (xe_var (i := 1) rfl (.inl rfl)))))))))
abbrev N__law_pick : List Str := ["state", "row"]
theorem sc__law_pick : FnScope N__law_pick ["state", "row"] (defScope (top 13)) := ⟨rfl, rfl, rfl, by decide +kernel, rfl, by decide +kernel, by decide +kernel⟩
noncomputable def b__law_pick : XS := xret (xop ixF (xvar 1) (xcallD f__law_draw (xcons (xvar 0) (xcons (xcall lenF (xcons (xvar 1) xnil)) xnil))))
noncomputable def f__law_pick : Fn := defn 2 b__law_pick
theorem ok__law_pick {P : Program} {w : World} {K : PySem.W.Frag} {mg : Str → Option Value} {base : Heap} (c : Cn K mg) : OkD P w K mg base "_law_pick" 2 ["state", "row"] f__law_pick := by
  obtain ⟨fd, F0⟩ := c.c.def_ 9 (d := dd ("_law_pick", 13)) rfl
  have F : FunD K "_law_pick" "_law_pick" (defArgs (top 13)) (defBody (top 13)) (defScope (top 13)) [] [] (He.ga K "_law_pick") fd := F0
  obtain ⟨fd__law_draw, G__law_draw, k__law_draw, b__law_draw⟩ := ok__law_draw (P := P) (w := w) (base := base) c
  refine ⟨fd, fn_okD (N := N__law_pick) (k := 1) F sc__law_pick (fun cdv A outer s H E hr => ?_), F.kp, F.bindsN fun _ _ _ _ _ _ us hl => match us, hl with | [_, _], _ => rfl⟩
  have hN : N__law_pick.Nodup := sc__law_pick.nd
  have hu65 : (A.deeper (envOfC "_law_pick" (defScope (top 13)) s.heap.objs.size (He.ga K "_law_pick") cdv)).units + 65 < cLine := by have := hr.un; omega
  have hu64 : (A.deeper (envOfC "_law_pick" (defScope (top 13)) s.heap.objs.size (He.ga K "_law_pick") cdv)).units + 64 < cLine := by have := hr.un; omega
  have hu1 : (A.deeper (envOfC "_law_pick" (defScope (top 13)) s.heap.objs.size (He.ga K "_law_pick") cdv)).units + 1 < cLine := by have := hr.un; omega
  have hu0 : (A.deeper (envOfC "_law_pick" (defScope (top 13)) s.heap.objs.size (He.ga K "_law_pick") cdv)).units < cLine := by have := hr.un; omega
  exact xss_one (xs_ret (xe_ix hu1 (xe_var (i := 1) rfl (.inl rfl)) (xe_callD G__law_draw (hr.mono (by decide)) rfl (c.gl__law_draw) k__law_draw b__law_draw (xa_cons (xe_var (i := 0) rfl (.inl rfl)) (xa_cons (xe_callB fc_len rfl c.fr_len bb_len (xa_cons (xe_var (i := 1) rfl (.inl rfl)) xa_nil)) xa_nil)) (xcons_len (xcons_len xnil_len)))))
abbrev N__law_eq : List Str := ["told", "due", "k"]
theorem sc__law_eq : FnScope N__law_eq ["told", "due"] (defScope (top 14)) := ⟨rfl, rfl, rfl, by decide +kernel, rfl, by decide +kernel, by decide +kernel⟩
theorem blk__law_eq_0 : BlkOk N__law_eq (defScope (top 14)) ⟨.function, [(".0", .local), ("k", .local), ("_law_eq", .globalImplicit), ("due", .free), ("told", .free)], false, false, []⟩ [("k", 2)] := ⟨rfl, by decide +kernel, by decide +kernel, by decide +kernel, by decide +kernel⟩
noncomputable def b__law_eq (u : Fn) : XS := xseq (xifS (xtor (xtru (xisi "list" (xvar 1))) (xtru (xisi "tuple" (xvar 1)))) (xseq (xifS (xtor (xtb (xop neF (xisi "list" (xvar 0)) (xisi "list" (xvar 1)))) (xtb (xop neF (xisi "tuple" (xvar 0)) (xisi "tuple" (xvar 1))))) (xret (xc (.bl false))) xskip) (xseq (xifS (xtb (xop neF (xcall lenF (xcons (xvar 0) xnil)) (xcall lenF (xcons (xvar 1) xnil)))) (xret (xc (.bl false))) xskip) (xret (xop eqF (xval (xlc (xirng1 (xcall lenF (xcons (xvar 1) xnil))) [2] (xgname 2) (xtnot (xtru (xcallP u (xcons (xop ixF (xvar 0) (xvar 2)) (xcons (xop ixF (xvar 1) (xvar 2)) xnil))))) (xvar 2))) (xval (xlst xnil)))))) xskip) (xseq (xifS (xtb (xop isNF (xvar 1) (xc .non))) (xret (xop isNF (xvar 0) (xc .non))) xskip) (xseq (xifS (xtru (xisi "str" (xvar 1))) (xret (xand (xisi "str" (xvar 0)) (xop eqF (xvar 0) (xvar 1)))) xskip) (xseq (xifS (xtru (xisi "bool" (xvar 1))) (xret (xand (xisi "bool" (xvar 0)) (xop eqF (xvar 0) (xvar 1)))) xskip) (xret (xand (xisi "int" (xvar 0)) (xand (xnot (xisi "bool" (xvar 0))) (xop eqF (xvar 0) (xvar 1))))))))
noncomputable def f__law_eq : Nat → Fn
  | 0 => fun _ _ => none
  | u + 1 => defn 3 (b__law_eq (f__law_eq u))
theorem ok__law_eq_u {P : Program} {w : World} {K : PySem.W.Frag} {mg : Str → Option Value} {base : Heap} (c : Cn K mg) (fd : FuncData) (F : FunD K "_law_eq" "_law_eq" (defArgs (top 14)) (defBody (top 14)) (defScope (top 14)) [] [] (He.ga K "_law_eq") fd) : ∀ u : Nat, FnOk P w K mg base CX0 (1 + u) (He.ga K "_law_eq") fd ["told", "due"] (spM K 2 (f__law_eq u))
  | 0 => fn_zero (N := N__law_eq) (k := 0) F sc__law_eq
  | u + 1 => by
    have Gself := ok__law_eq_u (P := P) (w := w) (base := base) c fd F u
    have kself := F.kp
    have bself : Binds K fd ["told", "due"] [] := F.bindsN fun _ _ _ _ _ _ us hl => match us, hl with | [_, _], _ => rfl
    refine fn_okD (N := N__law_eq) (k := 1 + u) (b := b__law_eq (f__law_eq u)) F sc__law_eq (fun cdv A outer s H E hr => ?_)
    have hN : N__law_eq.Nodup := sc__law_eq.nd
    have hu65 : (A.deeper (envOfC "_law_eq" (defScope (top 14)) s.heap.objs.size (He.ga K "_law_eq") cdv)).units + 65 < cLine := by have := hr.un; omega
    have hu64 : (A.deeper (envOfC "_law_eq" (defScope (top 14)) s.heap.objs.size (He.ga K "_law_eq") cdv)).units + 64 < cLine := by have := hr.un; omega
    have hu1 : (A.deeper (envOfC "_law_eq" (defScope (top 14)) s.heap.objs.size (He.ga K "_law_eq") cdv)).units + 1 < cLine := by have := hr.un; omega
    have hu0 : (A.deeper (envOfC "_law_eq" (defScope (top 14)) s.heap.objs.size (He.ga K "_law_eq") cdv)).units < cLine := by have := hr.un; omega
    exact xss_cons (xs_if (PW.pt (xw_or (xt_tru (xe_isi (xe_var (i := 1) rfl (.inr (.inl rfl))) rfl c.fr_isinstance rfl c.fr_list bb_list ty_ok_list)) (xw_or1 (xt_tru (xe_isi (xe_var (i := 1) rfl (.inr (.inl rfl))) rfl c.fr_isinstance rfl c.fr_tuple bb_tuple ty_ok_tuple))))) (xss_cons (xs_if (PW.pt (xw_or (xt_cmp (fo_ne hu64) (xe_isi (xe_var (i := 0) rfl (.inr (.inl rfl))) rfl c.fr_isinstance rfl c.fr_list bb_list ty_ok_list) (xe_isi (xe_var (i := 1) rfl (.inr (.inl rfl))) rfl c.fr_isinstance rfl c.fr_list bb_list ty_ok_list) rfl) (xw_or1 (xt_cmp (fo_ne hu64) (xe_isi (xe_var (i := 0) rfl (.inr (.inl rfl))) rfl c.fr_isinstance rfl c.fr_tuple bb_tuple ty_ok_tuple) (xe_isi (xe_var (i := 1) rfl (.inr (.inl rfl))) rfl c.fr_isinstance rfl c.fr_tuple bb_tuple ty_ok_tuple) rfl)))) (xss_one (xs_ret xe_bl)) xss_nil)
        (xss_cons (xs_if (xt_cmp (fo_ne hu64) (xe_callB fc_len rfl c.fr_len bb_len (xa_cons (xe_var (i := 0) rfl (.inr (.inl rfl))) xa_nil)) (xe_callB fc_len rfl c.fr_len bb_len (xa_cons (xe_var (i := 1) rfl (.inr (.inl rfl))) xa_nil)) rfl) (xss_one (xs_ret xe_bl)) xss_nil)
        (xss_one (xs_ret (xe_cmp (fo_eq hu64) (xe_val (xl_lc (own := [("k", 2)]) rfl hN (xi_rng1 rfl c.fr_range (xe_callB fc_len rfl c.fr_len bb_len (xa_cons (xe_var (i := 1) rfl (.inr (.inl rfl))) xa_nil))) blk__law_eq_0 (fun _ _ _ _ _ => xg_name (i := 2) hN rfl (by first | exact .inl rfl | exact .inr rfl)) (fun _ _ _ _ _ => xts_one (xt_not (xt_tru (xe_callP Gself hr rfl (c.gl__law_eq) kself bself (xa_cons (xe_ix hu1 (xe_var (i := 0) rfl (by first | exact .inl rfl | exact .inr (.inl rfl) | exact .inr (.inr rfl))) (xe_var (i := 2) rfl (by first | exact .inl rfl | exact .inr (.inl rfl) | exact .inr (.inr rfl)))) (xa_cons (xe_ix hu1 (xe_var (i := 1) rfl (by first | exact .inl rfl | exact .inr (.inl rfl) | exact .inr (.inr rfl))) (xe_var (i := 2) rfl (by first | exact .inl rfl | exact .inr (.inl rfl) | exact .inr (.inr rfl)))) xa_nil)) (xcons_len (xcons_len xnil_len)))))) (fun _ _ _ _ _ => xe_var (i := 2) rfl (by first | exact .inl rfl | exact .inr (.inl rfl) | exact .inr (.inr rfl))))) (xe_val (xl_lst xa_nil)) rfl))))) xss_nil)
        (xss_cons (xs_if (xt_cmp fo_isN (xe_var (i := 1) rfl (.inr (.inl rfl))) xe_non rfl) (xss_one (xs_ret (xe_cmp fo_isN (xe_var (i := 0) rfl (.inr (.inl rfl))) xe_non rfl))) xss_nil)
        (xss_cons (xs_if (xt_tru (xe_isi (xe_var (i := 1) rfl (.inr (.inl rfl))) rfl c.fr_isinstance rfl c.fr_str bb_str ty_ok_str)) (xss_one (xs_ret (xe_and (xe_isi (xe_var (i := 0) rfl (.inr (.inl rfl))) rfl c.fr_isinstance rfl c.fr_str bb_str ty_ok_str) (xe_one (xe_cmp (fo_eq hu64) (xe_var (i := 0) rfl (.inr (.inl rfl))) (xe_var (i := 1) rfl (.inr (.inl rfl))) rfl))))) xss_nil)
        (xss_cons (xs_if (xt_tru (xe_isi (xe_var (i := 1) rfl (.inr (.inl rfl))) rfl c.fr_isinstance rfl c.fr_bool bb_bool ty_ok_bool)) (xss_one (xs_ret (xe_and (xe_isi (xe_var (i := 0) rfl (.inr (.inl rfl))) rfl c.fr_isinstance rfl c.fr_bool bb_bool ty_ok_bool) (xe_one (xe_cmp (fo_eq hu64) (xe_var (i := 0) rfl (.inr (.inl rfl))) (xe_var (i := 1) rfl (.inr (.inl rfl))) rfl))))) xss_nil)
        (xss_one (xs_ret (xe_and (xe_isi (xe_var (i := 0) rfl (.inr (.inl rfl))) rfl c.fr_isinstance rfl c.fr_int bb_int ty_ok_int) (xe_and (xe_not (xe_isi (xe_var (i := 0) rfl (.inr (.inl rfl))) rfl c.fr_isinstance rfl c.fr_bool bb_bool ty_ok_bool)) (xe_one (xe_cmp (fo_eq hu64) (xe_var (i := 0) rfl (.inr (.inl rfl))) (xe_var (i := 1) rfl (.inr (.inl rfl))) rfl)))))))))
theorem ok__law_eq {P : Program} {w : World} {K : PySem.W.Frag} {mg : Str → Option Value} {base : Heap} (c : Cn K mg) : OkD P w K mg base "_law_eq" 5 ["told", "due"] (f__law_eq 4) := by
  obtain ⟨fd, F0⟩ := c.c.def_ 10 (d := dd ("_law_eq", 14)) rfl
  have F : FunD K "_law_eq" "_law_eq" (defArgs (top 14)) (defBody (top 14)) (defScope (top 14)) [] [] (He.ga K "_law_eq") fd := F0
  exact ⟨fd, ok__law_eq_u c fd F 4, F.kp, F.bindsN fun _ _ _ _ _ _ us hl => match us, hl with | [_, _], _ => rfl⟩
abbrev N__law_gcd : List Str := ["a", "b"]
theorem sc__law_gcd : FnScope N__law_gcd ["a", "b"] (defScope (top 15)) := ⟨rfl, rfl, rfl, by decide +kernel, rfl, by decide +kernel, by decide +kernel⟩
noncomputable def b__law_gcd : XS := xseq (xpar 0 1 (xcons (xcall absF (xcons (xvar 0) xnil)) (xcons (xcall absF (xcons (xvar 1) xnil)) xnil))) (xseq (xwhile (xtb (xop gtF (xvar 1) (xc (.int 0)))) (xpar 0 1 (xcons (xvar 1) (xcons (xop modF (xcall intF (xcons (xvar 0) xnil)) (xvar 1)) xnil)))) (xret (xvar 0)))
noncomputable def f__law_gcd : Fn := defn 2 b__law_gcd
theorem ok__law_gcd {P : Program} {w : World} {K : PySem.W.Frag} {mg : Str → Option Value} {base : Heap} (c : Cn K mg) : OkD P w K mg base "_law_gcd" 1 ["a", "b"] f__law_gcd := by
  obtain ⟨fd, F0⟩ := c.c.def_ 11 (d := dd ("_law_gcd", 15)) rfl
  have F : FunD K "_law_gcd" "_law_gcd" (defArgs (top 15)) (defBody (top 15)) (defScope (top 15)) [] [] (He.ga K "_law_gcd") fd := F0
  refine ⟨fd, fn_okD (N := N__law_gcd) (k := 0) F sc__law_gcd (fun cdv A outer s H E hr => ?_), F.kp, F.bindsN fun _ _ _ _ _ _ us hl => match us, hl with | [_, _], _ => rfl⟩
  have hN : N__law_gcd.Nodup := sc__law_gcd.nd
  have hu65 : (A.deeper (envOfC "_law_gcd" (defScope (top 15)) s.heap.objs.size (He.ga K "_law_gcd") cdv)).units + 65 < cLine := by have := hr.un; omega
  have hu64 : (A.deeper (envOfC "_law_gcd" (defScope (top 15)) s.heap.objs.size (He.ga K "_law_gcd") cdv)).units + 64 < cLine := by have := hr.un; omega
  have hu1 : (A.deeper (envOfC "_law_gcd" (defScope (top 15)) s.heap.objs.size (He.ga K "_law_gcd") cdv)).units + 1 < cLine := by have := hr.un; omega
  have hu0 : (A.deeper (envOfC "_law_gcd" (defScope (top 15)) s.heap.objs.size (He.ga K "_law_gcd") cdv)).units < cLine := by have := hr.un; omega
  exact xss_cons (xs_par (i := 0) (j := 1) rfl hN rfl rfl (by decide) rfl rfl (xa_cons (xe_callB fc_abs rfl c.fr_abs bb_abs (xa_cons (xe_var (i := 0) rfl (.inl rfl)) xa_nil)) (xa_cons (xe_callB fc_abs rfl c.fr_abs bb_abs (xa_cons (xe_var (i := 1) rfl (.inl rfl)) xa_nil)) xa_nil)))
        (xss_cons (xs_while PassesOwn.never (xt_cmp fo_gt (xe_var (i := 1) rfl (.inl rfl)) xe_int rfl) (xss_one (xs_par (i := 0) (j := 1) rfl hN rfl rfl (by decide) rfl rfl (xa_cons (xe_var (i := 1) rfl (.inl rfl)) (xa_cons (xe_op fo_mod (xe_callTy fc_int rfl c.fr_int bb_int (xa_cons (xe_var (i := 0) rfl (.inl rfl)) xa_nil)) (xe_var (i := 1) rfl (.inl rfl))) xa_nil)))))
        (xss_one (xs_ret (xe_var (i := 0) rfl (.inl rfl)))))
abbrev N__law_symbol : List Str := ["n", "c", "d", "best", "unit", "pair"]
theorem sc__law_symbol : FnScope N__law_symbol ["n", "c", "d"] (defScope (top 16)) := ⟨rfl, rfl, rfl, by decide +kernel, rfl, by decide +kernel, by decide +kernel⟩
noncomputable def b__law_symbol : XS := xseq (xifS (xtb (xop neF (xcallP f__law_gcd (xcons (xcallP f__law_gcd (xcons (xvar 1) (xcons (xvar 2) xnil))) (xcons (xvar 0) xnil))) (xc (.int 1)))) (xret (xc .non)) xskip) (xseq (xasg 3 (xc .non)) (xseq (xfor (xirng1 (xvar 0)) (xgname 4) (xifS (xtb (xop eqF (xcallP f__law_gcd (xcons (xvar 4) (xcons (xvar 0) xnil))) (xc (.int 1)))) (xseq (xasg 5 (xtup true (xcons (xop modF (xcall intF (xcons (xop mulF (xvar 4) (xvar 1)) xnil)) (xvar 0)) (xcons (xop modF (xcall intF (xcons (xop mulF (xvar 4) (xvar 2)) xnil)) (xvar 0)) xnil)))) (xasg 3 (xif (xtor (xtb (xop isNF (xvar 3) (xc .non))) (xtb (xop ltF (xvar 5) (xvar 3)))) (xvar 5) (xvar 3)))) xskip)) (xret (xvar 3))))
noncomputable def f__law_symbol : Fn := defn 6 b__law_symbol
theorem ok__law_symbol {P : Program} {w : World} {K : PySem.W.Frag} {mg : Str → Option Value} {base : Heap} (c : Cn K mg) : OkD P w K mg base "_law_symbol" 2 ["n", "c", "d"] f__law_symbol := by
  obtain ⟨fd, F0⟩ := c.c.def_ 12 (d := dd ("_law_symbol", 16)) rfl
  have F : FunD K "_law_symbol" "_law_symbol" (defArgs (top 16)) (defBody (top 16)) (defScope (top 16)) [] [] (He.ga K "_law_symbol") fd := F0
  obtain ⟨fd__law_gcd, G__law_gcd, k__law_gcd, b__law_gcd⟩ := ok__law_gcd (P := P) (w := w) (base := base) c
  refine ⟨fd, fn_okD (N := N__law_symbol) (k := 1) F sc__law_symbol (fun cdv A outer s H E hr => ?_), F.kp, F.bindsN fun _ _ _ _ _ _ us hl => match us, hl with | [_, _, _], _ => rfl⟩
  have hN : N__law_symbol.Nodup := sc__law_symbol.nd
  have hu65 : (A.deeper (envOfC "_law_symbol" (defScope (top 16)) s.heap.objs.size (He.ga K "_law_symbol") cdv)).units + 65 < cLine := by have := hr.un; omega
  have hu64 : (A.deeper (envOfC "_law_symbol" (defScope (top 16)) s.heap.objs.size (He.ga K "_law_symbol") cdv)).units + 64 < cLine := by have := hr.un; omega
  have hu1 : (A.deeper (envOfC "_law_symbol" (defScope (top 16)) s.heap.objs.size (He.ga K "_law_symbol") cdv)).units + 1 < cLine := by have := hr.un; omega
  have hu0 : (A.deeper (envOfC "_law_symbol" (defScope (top 16)) s.heap.objs.size (He.ga K "_law_symbol") cdv)).units < cLine := by have := hr.un; omega
  exact xss_cons (xs_if (xt_cmp (fo_ne hu64) (xe_callP G__law_gcd (hr.mono (by decide)) rfl (c.gl__law_gcd) k__law_gcd b__law_gcd (xa_cons (xe_callP G__law_gcd (hr.mono (by decide)) rfl (c.gl__law_gcd) k__law_gcd b__law_gcd (xa_cons (xe_var (i := 1) rfl (.inl rfl)) (xa_cons (xe_var (i := 2) rfl (.inl rfl)) xa_nil)) (xcons_len (xcons_len xnil_len))) (xa_cons (xe_var (i := 0) rfl (.inl rfl)) xa_nil)) (xcons_len (xcons_len xnil_len))) xe_int rfl) (xss_one (xs_ret xe_non)) xss_nil)
        (xss_cons (xs_set (i := 3) hN rfl (.inl rfl) xe_non)
        (xss_cons (xs_for PassesOwn.never rfl (xi_rng1 rfl c.fr_range (xe_var (i := 0) rfl (.inl rfl))) (xg_name (i := 4) hN rfl (.inl rfl)) (xss_one (xs_if (xt_cmp (fo_eq hu64) (xe_callP G__law_gcd (hr.mono (by decide)) rfl (c.gl__law_gcd) k__law_gcd b__law_gcd (xa_cons (xe_var (i := 4) rfl (.inl rfl)) (xa_cons (xe_var (i := 0) rfl (.inl rfl)) xa_nil)) (xcons_len (xcons_len xnil_len))) xe_int rfl) (xss_cons (xs_set (i := 5) hN rfl (.inl rfl) (xe_tup true (xa_cons (xe_op fo_mod (xe_callTy fc_int rfl c.fr_int bb_int (xa_cons (xe_op fo_mul (xe_var (i := 4) rfl (.inl rfl)) (xe_var (i := 1) rfl (.inl rfl))) xa_nil)) (xe_var (i := 0) rfl (.inl rfl))) (xa_cons (xe_op fo_mod (xe_callTy fc_int rfl c.fr_int bb_int (xa_cons (xe_op fo_mul (xe_var (i := 4) rfl (.inl rfl)) (xe_var (i := 2) rfl (.inl rfl))) xa_nil)) (xe_var (i := 0) rfl (.inl rfl))) xa_nil))))
        (xss_one (xs_set (i := 3) hN rfl (.inl rfl) (xe_ifExp (PW.pt (xw_or (xt_cmp fo_isN (xe_var (i := 3) rfl (.inl rfl)) xe_non rfl) (xw_or1 (xt_cmp (fo_lt hu0) (xe_var (i := 5) rfl (.inl rfl)) (xe_var (i := 3) rfl (.inl rfl)) rfl)))) (xe_var (i := 5) rfl (.inl rfl)) (xe_var (i := 3) rfl (.inl rfl)))))) xss_nil)))
        (xss_one (xs_ret (xe_var (i := 3) rfl (.inl rfl))))))
abbrev N__law_heilbronn : List Str := ["p", "found", "a", "d", "b", "c"]
theorem sc__law_heilbronn : FnScope N__law_heilbronn ["p"] (defScope (top 17)) := ⟨rfl, rfl, rfl, by decide +kernel, rfl, by decide +kernel, by decide +kernel⟩
theorem blk__law_heilbronn_0 : BlkOk N__law_heilbronn (defScope (top 17)) ⟨.function, [(".0", .local), ("c", .local), ("a", .free), ("b", .free), ("d", .free), ("p", .free)], false, false, []⟩ [("c", 5)] := ⟨rfl, by decide +kernel, by decide +kernel, by decide +kernel, by decide +kernel⟩
noncomputable def b__law_heilbronn : XS := xseq (xasg 1 (xval (xlst xnil))) (xseq (xfor (xirng2 (xc (.int 1)) (xop addF (xvar 0) (xc (.int 1)))) (xgname 2) (xfor (xirng2 (xc (.int 1)) (xop addF (xvar 0) (xc (.int 1)))) (xgname 3) (xfor (xirng1 (xvar 2)) (xgname 4) (xasg 1 (xop addF (xvar 1) (xval (xlc (xirng1 (xvar 3)) [5] (xgname 5) (xtb (xop eqF (xop subF (xop mulF (xvar 2) (xvar 3)) (xop mulF (xvar 4) (xvar 5))) (xvar 0))) (xtup true (xcons (xvar 2) (xcons (xvar 4) (xcons (xvar 5) (xcons (xvar 3) xnil)))))))))))) (xret (xval (xcallL sortF (xcons (xvar 1) xnil)))))
noncomputable def f__law_heilbronn : Fn := defn 6 b__law_heilbronn
theorem ok__law_heilbronn {P : Program} {w : World} {K : PySem.W.Frag} {mg : Str → Option Value} {base : Heap} (c : Cn K mg) : OkD P w K mg base "_law_heilbronn" 1 ["p"] f__law_heilbronn := by
  obtain ⟨fd, F0⟩ := c.c.def_ 13 (d := dd ("_law_heilbronn", 17)) rfl
  have F : FunD K "_law_heilbronn" "_law_heilbronn" (defArgs (top 17)) (defBody (top 17)) (defScope (top 17)) [] [] (He.ga K "_law_heilbronn") fd := F0
  refine ⟨fd, fn_okD (N := N__law_heilbronn) (k := 0) F sc__law_heilbronn (fun cdv A outer s H E hr => ?_), F.kp, F.bindsN fun _ _ _ _ _ _ us hl => match us, hl with | [_], _ => rfl⟩
  have hN : N__law_heilbronn.Nodup := sc__law_heilbronn.nd
  have hu65 : (A.deeper (envOfC "_law_heilbronn" (defScope (top 17)) s.heap.objs.size (He.ga K "_law_heilbronn") cdv)).units + 65 < cLine := by have := hr.un; omega
  have hu64 : (A.deeper (envOfC "_law_heilbronn" (defScope (top 17)) s.heap.objs.size (He.ga K "_law_heilbronn") cdv)).units + 64 < cLine := by have := hr.un; omega
  have hu1 : (A.deeper (envOfC "_law_heilbronn" (defScope (top 17)) s.heap.objs.size (He.ga K "_law_heilbronn") cdv)).units + 1 < cLine := by have := hr.un; omega
  have hu0 : (A.deeper (envOfC "_law_heilbronn" (defScope (top 17)) s.heap.objs.size (He.ga K "_law_heilbronn") cdv)).units < cLine := by have := hr.un; omega
  exact xss_cons (xs_set (i := 1) hN rfl (.inl rfl) (xe_val (xl_lst xa_nil)))
        (xss_cons (xs_for PassesOwn.never rfl (xi_rng2 rfl c.fr_range xe_int (xe_op fo_add (xe_var (i := 0) rfl (.inr (.inl rfl))) xe_int)) (xg_name (i := 2) hN rfl (.inr rfl)) (xss_one (xs_for PassesOwn.never rfl (xi_rng2 rfl c.fr_range xe_int (xe_op fo_add (xe_var (i := 0) rfl (.inr (.inl rfl))) xe_int)) (xg_name (i := 3) hN rfl (.inr rfl)) (xss_one (xs_for PassesOwn.never rfl (xi_rng1 rfl c.fr_range (xe_var (i := 2) rfl (.inr (.inl rfl)))) (xg_name (i := 4) hN rfl (.inr rfl)) (xss_one (xs_set (i := 1) hN rfl (.inl rfl) (xe_op fo_add (xe_var (i := 1) rfl (.inl rfl)) (xe_val (xl_lc (own := [("c", 5)]) rfl hN (xi_rng1 rfl c.fr_range (xe_var (i := 3) rfl (.inr (.inl rfl)))) blk__law_heilbronn_0 (fun _ _ _ _ _ => xg_name (i := 5) hN rfl (by first | exact .inl rfl | exact .inr rfl)) (fun _ _ _ _ _ => xts_one (xt_cmp (fo_eq hu64) (xe_op fo_sub (xe_op fo_mul (xe_var (i := 2) rfl (by first | exact .inl rfl | exact .inr (.inl rfl) | exact .inr (.inr rfl))) (xe_var (i := 3) rfl (by first | exact .inl rfl | exact .inr (.inl rfl) | exact .inr (.inr rfl)))) (xe_op fo_mul (xe_var (i := 4) rfl (by first | exact .inl rfl | exact .inr (.inl rfl) | exact .inr (.inr rfl))) (xe_var (i := 5) rfl (by first | exact .inl rfl | exact .inr (.inl rfl) | exact .inr (.inr rfl))))) (xe_var (i := 0) rfl (by first | exact .inl rfl | exact .inr (.inl rfl) | exact .inr (.inr rfl))) rfl)) (fun _ _ _ _ _ => xe_tup true (xa_cons (xe_var (i := 2) rfl (by first | exact .inl rfl | exact .inr (.inl rfl) | exact .inr (.inr rfl))) (xa_cons (xe_var (i := 4) rfl (by first | exact .inl rfl | exact .inr (.inl rfl) | exact .inr (.inr rfl))) (xa_cons (xe_var (i := 5) rfl (by first | exact .inl rfl | exact .inr (.inl rfl) | exact .inr (.inr rfl))) (xa_cons (xe_var (i := 3) rfl (by first | exact .inl rfl | exact .inr (.inl rfl) | exact .inr (.inr rfl))) xa_nil)))))))))))))))
        (xss_one (xs_ret (xe_val (xl_callB (fc_sorted rfl) rfl c.fr_sorted bb_sorted (xa_cons (xe_var (i := 1) rfl (.inl rfl)) xa_nil))))))
abbrev N__law_symbols : List Str := ["n", "found", "c", "d", "row", "rows", "number", "k"]
theorem sc__law_symbols : FnScope N__law_symbols ["n"] (defScope (top 18)) := ⟨rfl, rfl, rfl, by decide +kernel, rfl, by decide +kernel, by decide +kernel⟩
noncomputable def b__law_symbols : XS := xseq (xasg 1 xdnT) (xseq (xfor (xirng1 (xvar 0)) (xgname 2) (xifS (xtb (xop eqF (xop modF (xcall intF (xcons (xvar 0) xnil)) (xcall maxF (xcons (xvar 2) (xcons (xc (.int 1)) xnil)))) (xc (.int 0)))) (xfor (xirng1 (xvar 0)) (xgname 3) (xseq (xasg 4 (xcallP f__law_symbol (xcons (xvar 0) (xcons (xvar 2) (xcons (xvar 3) xnil))))) (xifS (xtb (xop notNF (xvar 4) (xc .non))) (xasgG (xgsub (xvar 1) (xvar 4)) (xc (.bl true))) xskip))) xskip)) (xseq (xasg 5 (xval (xcallL sortF (xcons (xvar 1) xnil)))) (xseq (xasg 6 xdnT) (xseq (xfor (xirng1 (xcall lenF (xcons (xvar 5) xnil))) (xgname 7) (xasgG (xgsub (xvar 6) (xop ixF (xvar 5) (xvar 7))) (xvar 7))) (xretT (xcons (xvar 5) (xcons (xvar 6) xnil)))))))
noncomputable def f__law_symbols : Fn := defn 8 b__law_symbols
theorem ok__law_symbols {P : Program} {w : World} {K : PySem.W.Frag} {mg : Str → Option Value} {base : Heap} (c : Cn K mg) : OkD P w K mg base "_law_symbols" 3 ["n"] f__law_symbols := by
  obtain ⟨fd, F0⟩ := c.c.def_ 14 (d := dd ("_law_symbols", 18)) rfl
  have F : FunD K "_law_symbols" "_law_symbols" (defArgs (top 18)) (defBody (top 18)) (defScope (top 18)) [] [] (He.ga K "_law_symbols") fd := F0
  obtain ⟨fd__law_symbol, G__law_symbol, k__law_symbol, b__law_symbol⟩ := ok__law_symbol (P := P) (w := w) (base := base) c
  refine ⟨fd, fn_okD (N := N__law_symbols) (k := 2) F sc__law_symbols (fun cdv A outer s H E hr => ?_), F.kp, F.bindsN fun _ _ _ _ _ _ us hl => match us, hl with | [_], _ => rfl⟩
  have hN : N__law_symbols.Nodup := sc__law_symbols.nd
  have hu65 : (A.deeper (envOfC "_law_symbols" (defScope (top 18)) s.heap.objs.size (He.ga K "_law_symbols") cdv)).units + 65 < cLine := by have := hr.un; omega
  have hu64 : (A.deeper (envOfC "_law_symbols" (defScope (top 18)) s.heap.objs.size (He.ga K "_law_symbols") cdv)).units + 64 < cLine := by have := hr.un; omega
  have hu1 : (A.deeper (envOfC "_law_symbols" (defScope (top 18)) s.heap.objs.size (He.ga K "_law_symbols") cdv)).units + 1 < cLine := by have := hr.un; omega
  have hu0 : (A.deeper (envOfC "_law_symbols" (defScope (top 18)) s.heap.objs.size (He.ga K "_law_symbols") cdv)).units < cLine := by have := hr.un; omega
  exact xss_cons (xs_set (i := 1) hN rfl (.inl rfl) xe_dnT)
        (xss_cons (xs_for PassesOwn.never rfl (xi_rng1 rfl c.fr_range (xe_var (i := 0) rfl (.inl rfl))) (xg_name (i := 2) hN rfl (.inl rfl)) (xss_one (xs_if (xt_cmp (fo_eq hu64) (xe_op fo_mod (xe_callTy fc_int rfl c.fr_int bb_int (xa_cons (xe_var (i := 0) rfl (.inl rfl)) xa_nil)) (xe_callB (fc_max rfl) rfl c.fr_max bb_max (xa_cons (xe_var (i := 2) rfl (.inl rfl)) (xa_cons xe_int xa_nil)))) xe_int rfl) (xss_one (xs_for PassesOwn.never rfl (xi_rng1 rfl c.fr_range (xe_var (i := 0) rfl (.inl rfl))) (xg_name (i := 3) hN rfl (.inl rfl)) (xss_cons (xs_set (i := 4) hN rfl (.inl rfl) (xe_callP G__law_symbol (hr.mono (by decide)) rfl (c.gl__law_symbol) k__law_symbol b__law_symbol (xa_cons (xe_var (i := 0) rfl (.inl rfl)) (xa_cons (xe_var (i := 2) rfl (.inl rfl)) (xa_cons (xe_var (i := 3) rfl (.inl rfl)) xa_nil))) (xcons_len (xcons_len (xcons_len xnil_len)))))
        (xss_one (xs_if (xt_cmp fo_notN (xe_var (i := 4) rfl (.inl rfl)) xe_non rfl) (xss_one (xs_asg xe_bl (xg_sub hu1 (xe_var (i := 1) rfl (.inl rfl)) (xe_var (i := 4) rfl (.inl rfl))))) xss_nil))))) xss_nil)))
        (xss_cons (xs_set (i := 5) hN rfl (.inl rfl) (xe_val (xl_callB (fc_sorted rfl) rfl c.fr_sorted bb_sorted (xa_cons (xe_var (i := 1) rfl (.inl rfl)) xa_nil))))
        (xss_cons (xs_set (i := 6) hN rfl (.inl rfl) xe_dnT)
        (xss_cons (xs_for PassesOwn.never rfl (xi_rng1 rfl c.fr_range (xe_callB fc_len rfl c.fr_len bb_len (xa_cons (xe_var (i := 5) rfl (.inl rfl)) xa_nil))) (xg_name (i := 7) hN rfl (.inl rfl)) (xss_one (xs_asg (xe_var (i := 7) rfl (.inl rfl)) (xg_sub hu1 (xe_var (i := 6) rfl (.inl rfl)) (xe_ix hu1 (xe_var (i := 5) rfl (.inl rfl)) (xe_var (i := 7) rfl (.inl rfl)))))))
        (xss_one (xs_retT (xa_cons (xe_var (i := 5) rfl (.inl rfl)) (xa_cons (xe_var (i := 6) rfl (.inl rfl)) xa_nil))))))))
abbrev N__law_image : List Str := ["rows", "number", "n", "p", "coset", "u", "v", "told", "a", "b", "c", "d", "row"]
theorem sc__law_image : FnScope N__law_image ["rows", "number", "n", "p", "coset"] (defScope (top 19)) := ⟨rfl, rfl, rfl, by decide +kernel, rfl, by decide +kernel, by decide +kernel⟩
noncomputable def b__law_image : XS := xseq (xasgG (xgtup 2 (xgcons (xgname 5) (xgcons (xgname 6) xgnil))) (xop ixF (xvar 0) (xvar 4))) (xseq (xasg 7 (xcel (xlst xnil))) (xseq (xfor (xit (xcallP f__law_heilbronn (xcons (xvar 3) xnil))) (xgtup 4 (xgcons (xgname 8) (xgcons (xgname 9) (xgcons (xgname 10) (xgcons (xgname 11) xgnil))))) (xseq (xasg 12 (xcallP f__law_symbol (xcons (xvar 2) (xcons (xop addF (xop mulF (xvar 5) (xvar 8)) (xop mulF (xvar 6) (xvar 10))) (xcons (xop addF (xop mulF (xvar 5) (xvar 9)) (xop mulF (xvar 6) (xvar 11))) xnil))))) (xifS (xtb (xop notNF (xvar 12) (xc .non))) (xexpr (xmeth isLs appF (xvar 7) (xcons (xop ixF (xvar 1) (xvar 12)) xnil))) xskip))) (xret (xval (xcallL sortF (xcons (xvar 7) xnil))))))
noncomputable def f__law_image : Fn := defn 13 b__law_image
theorem ok__law_image {P : Program} {w : World} {K : PySem.W.Frag} {mg : Str → Option Value} {base : Heap} (c : Cn K mg) : OkD P w K mg base "_law_image" 3 ["rows", "number", "n", "p", "coset"] f__law_image := by
  obtain ⟨fd, F0⟩ := c.c.def_ 15 (d := dd ("_law_image", 19)) rfl
  have F : FunD K "_law_image" "_law_image" (defArgs (top 19)) (defBody (top 19)) (defScope (top 19)) [] [] (He.ga K "_law_image") fd := F0
  obtain ⟨fd__law_heilbronn, G__law_heilbronn, k__law_heilbronn, b__law_heilbronn⟩ := ok__law_heilbronn (P := P) (w := w) (base := base) c
  obtain ⟨fd__law_symbol, G__law_symbol, k__law_symbol, b__law_symbol⟩ := ok__law_symbol (P := P) (w := w) (base := base) c
  refine ⟨fd, fn_okD (N := N__law_image) (k := 2) F sc__law_image (fun cdv A outer s H E hr => ?_), F.kp, F.bindsN fun _ _ _ _ _ _ us hl => match us, hl with | [_, _, _, _, _], _ => rfl⟩
  have hN : N__law_image.Nodup := sc__law_image.nd
  have hu65 : (A.deeper (envOfC "_law_image" (defScope (top 19)) s.heap.objs.size (He.ga K "_law_image") cdv)).units + 65 < cLine := by have := hr.un; omega
  have hu64 : (A.deeper (envOfC "_law_image" (defScope (top 19)) s.heap.objs.size (He.ga K "_law_image") cdv)).units + 64 < cLine := by have := hr.un; omega
  have hu1 : (A.deeper (envOfC "_law_image" (defScope (top 19)) s.heap.objs.size (He.ga K "_law_image") cdv)).units + 1 < cLine := by have := hr.un; omega
  have hu0 : (A.deeper (envOfC "_law_image" (defScope (top 19)) s.heap.objs.size (He.ga K "_law_image") cdv)).units < cLine := by have := hr.un; omega
  exact xss_cons (xs_asg (xe_ix hu1 (xe_var (i := 0) rfl (.inl rfl)) (xe_var (i := 4) rfl (.inl rfl))) (xg_tup rfl (xgs_cons (xg_name (i := 5) hN rfl (.inl rfl)) (xgs_cons (xg_name (i := 6) hN rfl (.inl rfl)) xgs_nil))))
        (xss_cons (xs_set (i := 7) hN rfl (.inl rfl) (xe_cel (xl_lst xa_nil)))
        (xss_cons (xs_for PassesOwn.never rfl (xi_any (xe_callP G__law_heilbronn (hr.mono (by decide)) rfl (c.gl__law_heilbronn) k__law_heilbronn b__law_heilbronn (xa_cons (xe_var (i := 3) rfl (.inl rfl)) xa_nil) (xcons_len xnil_len))) (xg_tup rfl (xgs_cons (xg_name (i := 8) hN rfl (.inl rfl)) (xgs_cons (xg_name (i := 9) hN rfl (.inl rfl)) (xgs_cons (xg_name (i := 10) hN rfl (.inl rfl)) (xgs_cons (xg_name (i := 11) hN rfl (.inl rfl)) xgs_nil))))) (xss_cons (xs_set (i := 12) hN rfl (.inl rfl) (xe_callP G__law_symbol (hr.mono (by decide)) rfl (c.gl__law_symbol) k__law_symbol b__law_symbol (xa_cons (xe_var (i := 2) rfl (.inl rfl)) (xa_cons (xe_op fo_add (xe_op fo_mul (xe_var (i := 5) rfl (.inl rfl)) (xe_var (i := 8) rfl (.inl rfl))) (xe_op fo_mul (xe_var (i := 6) rfl (.inl rfl)) (xe_var (i := 10) rfl (.inl rfl)))) (xa_cons (xe_op fo_add (xe_op fo_mul (xe_var (i := 5) rfl (.inl rfl)) (xe_var (i := 9) rfl (.inl rfl))) (xe_op fo_mul (xe_var (i := 6) rfl (.inl rfl)) (xe_var (i := 11) rfl (.inl rfl)))) xa_nil))) (xcons_len (xcons_len (xcons_len xnil_len)))))
        (xss_one (xs_if (xt_cmp fo_notN (xe_var (i := 12) rfl (.inl rfl)) xe_non rfl) (xss_one (xs_expr (xe_bm PySem.F.plainAttrs_list PySem.F.slot_list_append PySem.F.type_list_append ty_list fm_app (xe_var (i := 7) rfl (.inl rfl)) (xa_cons (xe_ix hu1 (xe_var (i := 1) rfl (.inl rfl)) (xe_var (i := 12) rfl (.inl rfl))) xa_nil)))) xss_nil))))
        (xss_one (xs_ret (xe_val (xl_callB (fc_sorted rfl) rfl c.fr_sorted bb_sorted (xa_cons (xe_var (i := 7) rfl (.inl rfl)) xa_nil)))))))
abbrev N_law : List Str := ["script", "state", "p", "n", "rows", "number", "turn", "coset", "q"]
theorem sc_law : FnScope N_law ["script"] (defScope (top 20)) := ⟨rfl, rfl, rfl, by decide +kernel, rfl, by decide +kernel, by decide +kernel⟩
noncomputable def b_law : XS := xseq (xasg 1 (xcallS f__law_state (xcons (xvar 0) xnil))) (xseq (xasg 2 (xcallD f__law_pick (xcons (xvar 1) (xcons (xval (xlst (xcons (xc (.int 2)) (xcons (xc (.int 3)) (xcons (xc (.int 5)) (xcons (xc (.int 7)) (xcons (xc (.int 11)) (xcons (xc (.int 13)) (xcons (xc (.int 17)) (xcons (xc (.int 19)) (xcons (xc (.int 23)) xnil))))))))))) xnil)))) (xseq (xifS (xtnot (xtru (xcallP (f__law_eq 4) (xcons (xcallP f_heilbronn (xcons (xvar 2) xnil)) (xcons (xcallP f__law_heilbronn (xcons (xvar 2) xnil)) xnil))))) (xret (xc (.bl false))) xskip) (xseq (xfor (xit (xval (xlst (xcons (xop addF (xc (.int 1)) (xcallD f__law_draw (xcons (xvar 1) (xcons (xc (.int 60)) xnil)))) (xcons (xvar 2) (xcons (xcallD f__law_pick (xcons (xvar 1) (xcons (xval (xlst (xcons (xop mulF (xc (.int 2)) (xvar 2)) (xcons (xc (.int 4)) (xcons (xc (.int 25)) (xcons (xc (.int 30)) (xcons (xc (.int 48)) (xcons (xc (.int 49)) (xcons (xc (.int 72)) (xcons (xc (.int 97)) xnil)))))))))) xnil))) xnil)))))) (xgname 3) (xseq (xasg 3 (xif (xtb (xop leF (xcallP f_count_symbols (xcons (xvar 3) xnil)) (xc (.int 120)))) (xvar 3) (xc (.int 36)))) (xseq (xasgG (xgtup 2 (xgcons (xgname 4) (xgcons (xgname 5) xgnil))) (xcallP f__law_symbols (xcons (xvar 3) xnil))) (xfor (xirng1 (xc (.int 4))) (xgname 6) (xseq (xasg 7 (xcallD f__law_draw (xcons (xvar 1) (xcons (xcall lenF (xcons (xvar 4) xnil)) xnil)))) (xseq (xasg 8 (xif (xtb (xop eqF (xvar 6) (xc (.int 0)))) (xvar 2) (xcallD f__law_pick (xcons (xvar 1) (xcons (xval (xlst (xcons (xc (.int 2)) (xcons (xc (.int 3)) (xcons (xc (.int 5)) (xcons (xc (.int 7)) xnil)))))) xnil))))) (xifS (xtnot (xtru (xcallP (f__law_eq 4) (xcons (xcallP f_image (xcons (xvar 3) (xcons (xvar 8) (xcons (xvar 7) xnil)))) (xcons (xcallP f__law_image (xcons (xvar 4) (xcons (xvar 5) (xcons (xvar 3) (xcons (xvar 8) (xcons (xvar 7) xnil)))))) xnil))))) (xret (xc (.bl false))) xskip))))))) (xret (xc (.bl true))))))
noncomputable def f_law : Fn := defn 9 b_law
theorem ok_law_fd {P : Program} {w : World} {K : PySem.W.Frag} {mg : Str → Option Value} {base : Heap} (c : Cn K mg) (fd : FuncData) (F : FunD K "law" "law" (defArgs (top 20)) (defBody (top 20)) (defScope (top 20)) [] [] (He.ga K "law") fd) : FnOk P w K mg base CX0 6 (He.ga K "law") fd ["script"] (spM K 1 f_law) := by
  obtain ⟨fd__law_state, G__law_state, k__law_state, b__law_state⟩ := ok__law_state (P := P) (w := w) (base := base) c
  obtain ⟨fd__law_pick, G__law_pick, k__law_pick, b__law_pick⟩ := ok__law_pick (P := P) (w := w) (base := base) c
  obtain ⟨fd__law_eq, G__law_eq, k__law_eq, b__law_eq⟩ := ok__law_eq (P := P) (w := w) (base := base) c
  obtain ⟨fd_heilbronn, G_heilbronn, k_heilbronn, b_heilbronn⟩ := ok_heilbronn (P := P) (w := w) (base := base) c
  obtain ⟨fd__law_heilbronn, G__law_heilbronn, k__law_heilbronn, b__law_heilbronn⟩ := ok__law_heilbronn (P := P) (w := w) (base := base) c
  obtain ⟨fd__law_draw, G__law_draw, k__law_draw, b__law_draw⟩ := ok__law_draw (P := P) (w := w) (base := base) c
  obtain ⟨fd_count_symbols, G_count_symbols, k_count_symbols, b_count_symbols⟩ := ok_count_symbols (P := P) (w := w) (base := base) c
  obtain ⟨fd__law_symbols, G__law_symbols, k__law_symbols, b__law_symbols⟩ := ok__law_symbols (P := P) (w := w) (base := base) c
  obtain ⟨fd_image, G_image, k_image, b_image⟩ := ok_image (P := P) (w := w) (base := base) c
  obtain ⟨fd__law_image, G__law_image, k__law_image, b__law_image⟩ := ok__law_image (P := P) (w := w) (base := base) c
  refine fn_okD (N := N_law) (k := 5) F sc_law (fun cdv A outer s H E hr => ?_)
  have hN : N_law.Nodup := sc_law.nd
  have hu65 : (A.deeper (envOfC "law" (defScope (top 20)) s.heap.objs.size (He.ga K "law") cdv)).units + 65 < cLine := by have := hr.un; omega
  have hu64 : (A.deeper (envOfC "law" (defScope (top 20)) s.heap.objs.size (He.ga K "law") cdv)).units + 64 < cLine := by have := hr.un; omega
  have hu1 : (A.deeper (envOfC "law" (defScope (top 20)) s.heap.objs.size (He.ga K "law") cdv)).units + 1 < cLine := by have := hr.un; omega
  have hu0 : (A.deeper (envOfC "law" (defScope (top 20)) s.heap.objs.size (He.ga K "law") cdv)).units < cLine := by have := hr.un; omega
  exact xss_cons (xs_set (i := 1) hN rfl (.inl rfl) (xe_callS G__law_state (hr.mono (by decide)) rfl (c.gl__law_state) k__law_state b__law_state (xa_cons (xe_var (i := 0) rfl (.inl rfl)) xa_nil) (hl := xcons_len xnil_len)))
        (xss_cons (xs_set (i := 2) hN rfl (.inl rfl) (xe_callD G__law_pick (hr.mono (by decide)) rfl (c.gl__law_pick) k__law_pick b__law_pick (xa_cons (xe_var (i := 1) rfl (.inl rfl)) (xa_cons (xe_val (xl_lst (xa_cons xe_int (xa_cons xe_int (xa_cons xe_int (xa_cons xe_int (xa_cons xe_int (xa_cons xe_int (xa_cons xe_int (xa_cons xe_int (xa_cons xe_int xa_nil))))))))))) xa_nil)) (xcons_len (xcons_len xnil_len))))
        (xss_cons (xs_if (xt_not (xt_tru (xe_callP G__law_eq (hr.mono (by decide)) rfl (c.gl__law_eq) k__law_eq b__law_eq (xa_cons (xe_callP G_heilbronn (hr.mono (by decide)) rfl (c.gl_heilbronn) k_heilbronn b_heilbronn (xa_cons (xe_var (i := 2) rfl (.inl rfl)) xa_nil) (xcons_len xnil_len)) (xa_cons (xe_callP G__law_heilbronn (hr.mono (by decide)) rfl (c.gl__law_heilbronn) k__law_heilbronn b__law_heilbronn (xa_cons (xe_var (i := 2) rfl (.inl rfl)) xa_nil) (xcons_len xnil_len)) xa_nil)) (xcons_len (xcons_len xnil_len))))) (xss_one (xs_ret xe_bl)) xss_nil)
        (xss_cons (xs_for PassesOwn.never rfl (xi_any (xe_val (xl_lst (xa_cons (xe_op fo_add xe_int (xe_callD G__law_draw (hr.mono (by decide)) rfl (c.gl__law_draw) k__law_draw b__law_draw (xa_cons (xe_var (i := 1) rfl (.inl rfl)) (xa_cons xe_int xa_nil)) (xcons_len (xcons_len xnil_len)))) (xa_cons (xe_var (i := 2) rfl (.inl rfl)) (xa_cons (xe_callD G__law_pick (hr.mono (by decide)) rfl (c.gl__law_pick) k__law_pick b__law_pick (xa_cons (xe_var (i := 1) rfl (.inl rfl)) (xa_cons (xe_val (xl_lst (xa_cons (xe_op fo_mul xe_int (xe_var (i := 2) rfl (.inl rfl))) (xa_cons xe_int (xa_cons xe_int (xa_cons xe_int (xa_cons xe_int (xa_cons xe_int (xa_cons xe_int (xa_cons xe_int xa_nil)))))))))) xa_nil)) (xcons_len (xcons_len xnil_len))) xa_nil)))))) (xg_name (i := 3) hN rfl (.inl rfl)) (xss_cons (xs_set (i := 3) hN rfl (.inl rfl) (xe_ifExp (xt_cmp fo_le (xe_callP G_count_symbols (hr.mono (by decide)) rfl (c.gl_count_symbols) k_count_symbols b_count_symbols (xa_cons (xe_var (i := 3) rfl (.inl rfl)) xa_nil) (xcons_len xnil_len)) xe_int rfl) (xe_var (i := 3) rfl (.inl rfl)) xe_int))
        (xss_cons (xs_asg (xe_callP G__law_symbols (hr.mono (by decide)) rfl (c.gl__law_symbols) k__law_symbols b__law_symbols (xa_cons (xe_var (i := 3) rfl (.inl rfl)) xa_nil) (xcons_len xnil_len)) (xg_tup rfl (xgs_cons (xg_name (i := 4) hN rfl (.inl rfl)) (xgs_cons (xg_name (i := 5) hN rfl (.inl rfl)) xgs_nil))))
        (xss_one (xs_for PassesOwn.never rfl (xi_rng1 rfl c.fr_range xe_int) (xg_name (i := 6) hN rfl (.inl rfl)) (xss_cons (xs_set (i := 7) hN rfl (.inl rfl) (xe_callD G__law_draw (hr.mono (by decide)) rfl (c.gl__law_draw) k__law_draw b__law_draw (xa_cons (xe_var (i := 1) rfl (.inl rfl)) (xa_cons (xe_callB fc_len rfl c.fr_len bb_len (xa_cons (xe_var (i := 4) rfl (.inl rfl)) xa_nil)) xa_nil)) (xcons_len (xcons_len xnil_len))))
        (xss_cons (xs_set (i := 8) hN rfl (.inl rfl) (xe_ifExp (xt_cmp (fo_eq hu64) (xe_var (i := 6) rfl (.inl rfl)) xe_int rfl) (xe_var (i := 2) rfl (.inl rfl)) (xe_callD G__law_pick (hr.mono (by decide)) rfl (c.gl__law_pick) k__law_pick b__law_pick (xa_cons (xe_var (i := 1) rfl (.inl rfl)) (xa_cons (xe_val (xl_lst (xa_cons xe_int (xa_cons xe_int (xa_cons xe_int (xa_cons xe_int xa_nil)))))) xa_nil)) (xcons_len (xcons_len xnil_len)))))
        (xss_one (xs_if (xt_not (xt_tru (xe_callP G__law_eq (hr.mono (by decide)) rfl (c.gl__law_eq) k__law_eq b__law_eq (xa_cons (xe_callP G_image (hr.mono (by decide)) rfl (c.gl_image) k_image b_image (xa_cons (xe_var (i := 3) rfl (.inl rfl)) (xa_cons (xe_var (i := 8) rfl (.inl rfl)) (xa_cons (xe_var (i := 7) rfl (.inl rfl)) xa_nil))) (xcons_len (xcons_len (xcons_len xnil_len)))) (xa_cons (xe_callP G__law_image (hr.mono (by decide)) rfl (c.gl__law_image) k__law_image b__law_image (xa_cons (xe_var (i := 4) rfl (.inl rfl)) (xa_cons (xe_var (i := 5) rfl (.inl rfl)) (xa_cons (xe_var (i := 3) rfl (.inl rfl)) (xa_cons (xe_var (i := 8) rfl (.inl rfl)) (xa_cons (xe_var (i := 7) rfl (.inl rfl)) xa_nil))))) (xcons_len (xcons_len (xcons_len (xcons_len (xcons_len xnil_len)))))) xa_nil)) (xcons_len (xcons_len xnil_len))))) (xss_one (xs_ret xe_bl)) xss_nil)))))))))
        (xss_one (xs_ret xe_bl)))))
/-! ### the head -/
abbrev RR : PySem.W.OpenRow := PySem.W.OpenLaw.row PySem.Challenge.rw_fareyhouse_k58_matrices_of_primes_and_im
abbrev hk : PySem.W.Hook := hookF 4 gx fa fn
def ob (s : PySem.W.SharedT) : AlF := obsFG 4 gx fa fn (HandSHeadRun.getT s)
theorem ob_eq (s : PySem.W.SharedT) : ob s = hk.obs s.abs := obsFG_eq (HandSHeadRun.getT_eq s)
def loose : List Str := ["primes_of", "units", "symbol_of", "symbols", "count_symbols", "heilbronn", "image", "_law_state", "_law_draw", "_law_pick", "_law_eq", "_law_gcd", "_law_symbol", "_law_heilbronn", "_law_symbols", "_law_image"]
theorem run (w : World) : HandSHeadRun.RunEqI RR (PySem.W.view RR.prog [0, 20]) hk ob 3000 loose w := by
  unfold HandSHeadRun.RunEqI
  kernel_rfl
end Q58
namespace Q58
open PySem PySem.Spec PyProof.Rows L2 Fy
/-- the gcd, as the law reckons it -/
theorem law_gcd_loop : ∀ (k : Nat) (a b : Int), 0 ≤ a → 0 ≤ b → b.toNat ≤ k → ∃ ρ', xwhile (xtb (xop gtF (xvar 1) (xc (.int 0)))) (xpar 0 1 (xcons (xvar 1) (xcons (xop modF (xcall intF (xcons (xvar 0) xnil)) (xvar 1)) xnil))) [some (.v (.int a)), some (.v (.int b))] [] = some (.nx, ρ', []) ∧ ρ'[0]? = some (some (.v (.int (Nat.gcd a.natAbs b.natAbs : Nat))))
  | k, a, b, ha, hb, hk => by
    rw [ev_while]
    by_cases h : 0 < b
    · simp [h]
      cases k with
      | zero => omega
      | succ k =>
        have l1 : 0 ≤ a % b := Int.emod_nonneg _ (by omega)
        have l2 : a % b < b := Int.emod_lt_of_pos _ h
        obtain ⟨ρ', h1, h2⟩ := law_gcd_loop k b (a % b) hb l1 (by omega)
        refine ⟨ρ', h1, ?_⟩
        rw [h2]
        have : (a % b).natAbs = a.natAbs % b.natAbs := Int.natAbs_emod_of_nonneg ha _
        rw [this, Nat.gcd_comm b.natAbs, ← Nat.gcd_rec b.natAbs a.natAbs, Nat.gcd_comm]
    · have e : b = 0 := by omega
      subst e
      simp
      omega
theorem run_law_gcd (a b : Int) : runP f__law_gcd [.int a, .int b] = some (.int (gI a b)) := by
  obtain ⟨ρ', h1, h2⟩ := law_gcd_loop _ (if a < 0 then -a else a) (if b < 0 then -b else b) (by split <;> omega) (by split <;> omega) (Nat.le_refl _)
  unfold runP f__law_gcd defn b__law_gcd
  simp [h1, h2]
  have e : ∀ a : Int, (if a < 0 then -a else a).natAbs = a.natAbs := fun a => by split <;> omega
  rw [e, e]; rfl
/-- the units -/
def unitsL (n : Int) : List Int := ((List.range n.toNat).map fun i : Nat => (i : Int)).filter fun a => decide (gI a n = 1)
def okn (n : Int) : Prop := 1 ≤ n ∧ n ≤ 100
theorem rng_ok {n : Int} (h : okn n) : rngOk 0 n = true := by
  rw [rngOk_iff]; unfold BIG; unfold okn at h; omega
theorem rng0 (n : Int) : rngW 0 n = ((List.range n.toNat).map fun i : Nat => (i : Int)).map fun i => .v (.int i) := by
  unfold rngW
  rw [List.map_map]
  simp
theorem fm_units (n : Int) : (rngW 0 n).filterMap (fun w => (intOf w).bind fun a => if gI a n = 1 then some (W.v (.int a)) else none) = ((unitsL n).map D.int).map W.v := by
  rw [rng0, List.filterMap_map]
  unfold unitsL
  induction ((List.range n.toNat).map fun i : Nat => (i : Int)) with
  | nil => rfl
  | cons x l ih =>
    rw [List.filterMap_cons, List.filter_cons, ih]
    by_cases h : gI x n = 1 <;> simp [h]
theorem run_units (n : Int) (h : okn n) : runP f_units [.int n] = some (.lst ((unitsL n).map .int)) := by
  have hc : xlc (xirng1 (xvar 0)) [1] (xgname 1) (xtb (xop eqF (xcall gcdF (xcons (xvar 1) (xcons (xvar 0) xnil))) (xc (.int 1)))) (xvar 1) [some (W.v (.int n)), none] [] = some (((unitsL n).map D.int).map W.v, []) := by
    rw [← fm_units]
    refine xlc_pure (ok := free) (S0 := []) (by simp [rng_ok h]) (by rw [rngW_length]; unfold okn at h; unfold LIM; omega) trivial _ fun w hw => ?_
    obtain ⟨i, e, h1, h2⟩ := rngW_mem hw
    subst e
    by_cases c : gI i n = 1 <;> simp [ev_turn, wipeR, c]
  unfold runP f_units defn b_units
  simp [hc]
/-- the symbol, as a pair -/
def symP (n c d : Int) : Option (Int × Int) := if gI (gI c d) n = 1 then ((unitsL n).map fun u => (u * c % n, u * d % n)).foldl minP none else none
def small (c : Int) : Prop := -1000000 ≤ c ∧ c ≤ 1000000
theorem mul_ok {a b : Int} (ha : small a) (hb : small b) : mulOk a b = true := by
  unfold small at ha hb
  refine mulOk_small ?_ ?_
  · exact Nat.le_trans (show a.natAbs ≤ 1000000 by omega) (by decide)
  · exact Nat.le_trans (show b.natAbs ≤ 1000000 by omega) (by decide)
theorem units_mem {n u : Int} (h : u ∈ unitsL n) : 0 ≤ u ∧ u < n ∧ gI u n = 1 := by
  unfold unitsL at h
  obtain ⟨h1, h2⟩ := List.mem_filter.mp h
  obtain ⟨k, hk, e⟩ := List.mem_map.mp h1
  rw [List.mem_range] at hk
  exact ⟨by omega, by omega, by simpa using h2⟩
theorem mem_units {n u : Int} (h0 : 0 ≤ u) (h1 : u < n) (h2 : gI u n = 1) : u ∈ unitsL n := by
  unfold unitsL
  refine List.mem_filter.mpr ⟨List.mem_map.mpr ⟨u.toNat, List.mem_range.mpr (by omega), by omega⟩, by simpa using h2⟩
theorem one_unit {n : Int} (h : okn n) : unitsL n ≠ [] := by
  unfold okn at h
  by_cases e : n = 1
  · subst e
    exact List.ne_nil_of_mem (mem_units (u := 0) (by omega) (by omega) (by decide))
  · exact List.ne_nil_of_mem (mem_units (n := n) (u := 1) (by omega) (by omega) (by unfold gI; simp))
theorem units_len {n : Int} (h : okn n) : (unitsL n).length ≤ 100 := by
  unfold unitsL
  refine Nat.le_trans (List.length_filter_le _ _) ?_
  unfold okn at h
  simp; omega
theorem run_symbol_of (n c d : Int) (h : okn n) (hc : small c) (hd : small d) : runP f_symbol_of [.int n, .int c, .int d] = some (encO (symP n c d)) := by
  have hl : xlc (xit (xcallP f_units (xcons (xvar 0) xnil))) [3] (xgname 3) xtt (xtup true (xcons (xop modF (xop mulF (xvar 3) (xvar 1)) (xvar 0)) (xcons (xop modF (xop mulF (xvar 3) (xvar 2)) (xvar 0)) xnil))) [some (W.v (.int n)), some (W.v (.int c)), some (W.v (.int d)), none] [] =
      some (((unitsL n).map fun u => (u * c % n, u * d % n)).map fun q => W.v (encP q), []) := by
    have e : (((unitsL n).map fun u => (u * c % n, u * d % n)).map fun q => W.v (encP q)) = (((unitsL n).map D.int).map W.v).filterMap fun w => (intOf w).map fun u => W.v (encP (u * c % n, u * d % n)) := by
      rw [List.map_map, List.map_map, List.filterMap_map]
      rw [← filterMap_some]
      rfl
    rw [e]
    refine xlc_pure (ok := free) (S0 := []) (by simp [run_units n h, itOf]) ?_ trivial _ fun w hw => ?_
    · have := units_len h
      simp; unfold LIM; omega
    · obtain ⟨d', hd', e⟩ := List.mem_map.mp hw
      obtain ⟨u, hu, e2⟩ := List.mem_map.mp hd'
      subst e2
      subst e
      obtain ⟨u0, u1, _⟩ := units_mem hu
      have su : small u := by unfold small; unfold okn at h; omega
      have hn : 0 < n := by unfold okn at h; omega
      simp [ev_turn, wipeR, mul_ok su hc, mul_ok su hd, hn, LIM, encP]
  unfold runP f_symbol_of defn b_symbol_of symP
  by_cases g : gI (gI c d) n = 1
  · cases hu : unitsL n with
    | nil => exact absurd hu (one_unit h)
    | cons u us =>
      rw [hu] at hl
      have hall : ∀ (q : Int × Int) (l : List (Int × Int)), (W.v (encP q) :: (l.map encP).map W.v).all isT = true := fun q l => by
        rw [List.all_cons, List.map_map, List.all_map, Bool.and_eq_true]
        exact ⟨rfl, List.all_eq_true.mpr fun _ _ => rfl⟩
      have hm := minW_enc (u * c % n, u * d % n) (us.map fun u => (u * c % n, u * d % n))
      cases hh : (us.map fun u => (u * c % n, u * d % n)).foldl minP (some (u * c % n, u * d % n)) with
      | none => rw [hh] at hm; cases hm
      | some q =>
        rw [hh] at hm
        have hm2 : minF [] [W.v (.lst (encP (u * c % n, u * d % n) :: (us.map fun u => (u * c % n, u * d % n)).map encP))] = some (.v (encP q)) := by
          rw [minF_cons, if_pos (.inr (hall _ _)), List.map_map]
          exact hm
        rw [List.map_cons, List.map_cons] at hl
        simp only [List.map_map] at hl hm2
        rw [if_pos g]
        show _ = some (encO ((us.map fun u => (u * c % n, u * d % n)).foldl minP (some (u * c % n, u * d % n))))
        rw [hh]
        have e3 : ∀ {f : Int → Int × Int} {l : List Int}, toDs (l.map ((fun q => W.v (encP q)) ∘ f)) = some (l.map (encP ∘ f)) := fun {f l} => toDs_comp (f := encP ∘ f)
        simp [hl, g, hm2, e3, encO]
  · simp [g, encO]
/-! the law's symbol -/
def part (n c d i : Int) : Option (Int × Int) := ((((List.range i.toNat).map fun j : Nat => (j : Int)).filter fun a => decide (gI a n = 1)).map fun u => (u * c % n, u * d % n)).foldl minP none
theorem part_succ {n c d i : Int} (h : 0 ≤ i) : part n c d (i + 1) = if gI i n = 1 then minP (part n c d i) (i * c % n, i * d % n) else part n c d i := by
  unfold part
  have er : (List.range (i + 1).toNat).map (fun j : Nat => (j : Int)) = (List.range i.toNat).map (fun j : Nat => (j : Int)) ++ [i] := by
    rw [show (i + 1).toNat = i.toNat + 1 by omega, List.range_succ, List.map_append]
    simp; omega
  rw [er, List.filter_append, List.map_append, List.foldl_append]
  by_cases c1 : gI i n = 1 <;> simp [c1]
theorem run_law_symbol (n c d : Int) (h : okn n) (hc : small c) (hd : small d) : runP f__law_symbol [.int n, .int c, .int d] = some (encO (symP n c d)) := by
  unfold runP f__law_symbol defn b__law_symbol
  have hn : 0 < n := by unfold okn at h; omega
  by_cases g : gI (gI c d) n = 1
  · have step : ∀ i ρ S, 0 ≤ i → i < n → (S = [] ∧ ∃ x y, ρ = [some (.v (.int n)), some (.v (.int c)), some (.v (.int d)), some (.v (encO (part n c d i))), x, y]) →
        ∃ fl ρ' S', ((xgname 4 (.v (.int i)) ρ S).bind fun q => (xifS (xtb (xop eqF (xcallP f__law_gcd (xcons (xvar 4) (xcons (xvar 0) xnil))) (xc (.int 1)))) (xseq (xasg 5 (xtup true (xcons (xop modF (xcall intF (xcons (xop mulF (xvar 4) (xvar 1)) xnil)) (xvar 0)) (xcons (xop modF (xcall intF (xcons (xop mulF (xvar 4) (xvar 2)) xnil)) (xvar 0)) xnil)))) (xasg 3 (xif (xtor (xtb (xop isNF (xvar 3) (xc .non))) (xtb (xop ltF (xvar 5) (xvar 3)))) (xvar 5) (xvar 3)))) xskip) q.1 q.2) = some (fl, ρ', S') ∧ (fl = .nx ∨ fl = .ct) ∧
          (S' = [] ∧ ∃ x y, ρ' = [some (.v (.int n)), some (.v (.int c)), some (.v (.int d)), some (.v (encO (part n c d (i + 1)))), x, y]) := by
      rintro i ρ S h0 h1 ⟨rfl, x, y, rfl⟩
      have su : small i := by unfold small; unfold okn at h; omega
      rw [part_succ h0]
      by_cases c1 : gI i n = 1
      · rw [if_pos c1]
        refine ⟨.nx, [some (.v (.int n)), some (.v (.int c)), some (.v (.int d)), some (.v (encO (minP (part n c d i) (i * c % n, i * d % n)))), some (.v (.int i)), some (.v (encP (i * c % n, i * d % n)))], [], ?_, .inl rfl, rfl, _, _, rfl⟩
        cases part n c d i with
        | none => simp [run_law_gcd, c1, mul_ok su hc, mul_ok su hd, hn, LIM, encO, minP, Fy.isNon, encP]
        | some q =>
          have hl : ltF [] (.v (.tup true [.int (i * c % n), .int (i * d % n)])) (.v (.tup true [.int q.1, .int q.2])) = some (.v (.bl (ltP (i * c % n, i * d % n) q))) := rfl
          cases hq : ltP (i * c % n, i * d % n) q <;> simp [run_law_gcd, c1, mul_ok su hc, mul_ok su hd, hn, LIM, encO, minP, hl, hq, encP, Fy.isNon]
      · rw [if_neg c1]
        refine ⟨.nx, [some (.v (.int n)), some (.v (.int c)), some (.v (.int d)), some (.v (encO (part n c d i))), some (.v (.int i)), y], [], ?_, .inl rfl, rfl, _, _, rfl⟩
        simp [run_law_gcd, c1]
    obtain ⟨ρ', S', h1, rfl, x, y, rfl⟩ := for_rng (lo := 0) (hi := n) (g := xgname 4) _ (by omega) step (ρ := [some (.v (.int n)), some (.v (.int c)), some (.v (.int d)), some (.v .non), none, none]) (S := []) ⟨rfl, none, none, rfl⟩
    simp [run_law_gcd, g, rng_ok h, h1, symP]
    rfl
  · simp [run_law_gcd, g, symP, encO]
end Q58
namespace Q58
open PySem PySem.Spec PyProof.Rows L2 Fy
/-! ## the symbols -/
def okc (n c : Int) : Prop := c = 0 ∨ n % c = 0
instance (n c : Int) : Decidable (okc n c) := inferInstanceAs (Decidable (_ ∨ _))
def addP (l : List (Int × Int)) : Option (Int × Int) → List (Int × Int)
  | none => l
  | some p => insP l p
/-- the keys found in the row c, up to d -/
def rowF (n c : Int) (l : List (Int × Int)) : Nat → List (Int × Int)
  | 0 => l
  | d + 1 => addP (rowF n c l d) (symP n c d)
def foundF (n : Int) : Nat → List (Int × Int)
  | 0 => []
  | c + 1 => if okc n c then rowF n c (foundF n c) n.toNat else foundF n c
theorem addP_len (l : List (Int × Int)) (o : Option (Int × Int)) : (addP l o).length ≤ l.length + 1 := by
  cases o with
  | none => simp [addP]
  | some p => exact insP_length l p
theorem rowF_len (n c : Int) (l : List (Int × Int)) : ∀ d, (rowF n c l d).length ≤ l.length + d
  | 0 => Nat.le_refl _
  | d + 1 => by
    have := addP_len (rowF n c l d) (symP n c d)
    have := rowF_len n c l d
    show (addP _ _).length ≤ _
    omega
theorem foundF_len (n : Int) : ∀ c, (foundF n c).length ≤ c * n.toNat
  | 0 => by simp [foundF]
  | c + 1 => by
    have ih := foundF_len n c
    have e : (c + 1) * n.toNat = c * n.toNat + n.toNat := by rw [Nat.add_mul, Nat.one_mul]
    unfold foundF
    split
    · have := rowF_len n c (foundF n c) n.toNat
      omega
    · omega
theorem addP_nodup {l : List (Int × Int)} (h : l.Nodup) (o : Option (Int × Int)) : (addP l o).Nodup := by
  cases o with
  | none => exact h
  | some p => exact insP_nodup h p
theorem rowF_nodup {n c : Int} {l : List (Int × Int)} (h : l.Nodup) : ∀ d, (rowF n c l d).Nodup
  | 0 => h
  | d + 1 => addP_nodup (rowF_nodup h d) _
theorem foundF_nodup (n : Int) : ∀ c, (foundF n c).Nodup
  | 0 => List.nodup_nil
  | c + 1 => by
    unfold foundF
    split
    · exact rowF_nodup (foundF_nodup n c) _
    · exact foundF_nodup n c
def rowsP (n : Int) : List (Int × Int) := isort ltP (foundF n n.toNat)
def sto (l : List (Int × Int)) : Sto := [.dT (l.map kvT)]
theorem set_found {l : List (Int × Int)} {p : Int × Int} (h : l.length < LIM) : setF (sto l) (.ref 0) (.v (encP p)) (.v (.bl true)) = some (sto (insP l p)) := by
  show (if (l.map kvT).length < LIM then (keyT (.v (encP p))).map fun key => (sto l).set 0 (.dT (dput (l.map kvT) key (.v (.bl true)))) else none) = _
  rw [if_pos (by simpa using h), keyT_enc]
  show some ((sto l).set 0 (.dT (dput (l.map kvT) (keyP p) (.v (.bl true))))) = _
  rw [dput_T]; rfl
theorem sort_found {l : List (Int × Int)} (h : l.length ≤ LIM) : sortF (sto l) [.ref 0] = some ((isort ltP l).map fun q => W.v (encP q)) := by
  have e : ((l.map kvT).map fun kv => W.v (keyTupD kv.1)) = l.map fun q => W.v (encP q) := by rw [List.map_map]; rfl
  show (if (l.map kvT).length ≤ LIM ∧ ((l.map kvT).map fun kv => W.v (keyTupD kv.1)).all isT = true then some (isort ltW ((l.map kvT).map fun kv => W.v (keyTupD kv.1))) else none) = _
  rw [e, if_pos ⟨by simpa using h, by rw [List.all_map, List.all_eq_true]; intro q _; rfl⟩]
  rw [isort_map (la := ltP) (fun q => W.v (encP q)) (fun a b => rfl)]
theorem isNon_enc (p : Int × Int) : Fy.isNon (.v (encP p)) = false := rfl
/-- one row of the double loop, for whichever symbol def -/
theorem row_loop {n c : Int} {k fs : Nat} {vs : Nat} (hn : okn n) (h0 : 0 ≤ c) (h1 : c < n) {g : Fn} (hg : ∀ c d, small c → small d → runP g [.int n, .int c, .int d] = some (encO (symP n c d))) (l : List (Int × Int)) (hl : l.length ≤ 10000) {r : Rho} (hr : r.length = vs) (x y : Option W) :
    ∃ ρ' S', forB free (xgname 3) (xseq (xasg 4 (xcallP g (xcons (xvar 0) (xcons (xvar 2) (xcons (xvar 3) xnil))))) (xifS (xtb (xop notNF (xvar 4) (xc .non))) (xasgG (xgsub (xvar 1) (xvar 4)) (xc (.bl true))) xskip)) (rngW 0 n) ([some (.v (.int n)), some (.ref 0), some (.v (.int c)), x, y] ++ r) (sto l) = some (.nx, ρ', S') ∧
      S' = sto (rowF n c l n.toNat) ∧ ∃ x y, ρ' = [some (.v (.int n)), some (.ref 0), some (.v (.int c)), x, y] ++ r := by
  have sc : small c := by unfold small; unfold okn at hn; omega
  refine for_rng (lo := 0) (hi := n) (g := xgname 3) (fun i ρ S => S = sto (rowF n c l i.toNat) ∧ ∃ x y, ρ = [some (.v (.int n)), some (.ref 0), some (.v (.int c)), x, y] ++ r) (by unfold okn at hn; omega) ?_ ⟨rfl, x, y, rfl⟩
  rintro i ρ S i0 i1 ⟨rfl, x, y, rfl⟩
  have si : small i := by unfold small; unfold okn at hn; omega
  have es : rowF n c l (i + 1).toNat = addP (rowF n c l i.toNat) (symP n c i) := by
    rw [show (i + 1).toNat = i.toNat + 1 by omega]
    show addP _ (symP n c (i.toNat : Nat)) = _
    rw [show ((i.toNat : Nat) : Int) = i by omega]
  rw [es]
  have hrun := hg c i sc si
  have hlen : (rowF n c l i.toNat).length < LIM := by
    have := rowF_len n c l i.toNat
    unfold LIM
    unfold okn at hn
    omega
  cases ho : symP n c i with
  | none =>
    rw [ho] at hrun
    refine ⟨.nx, [some (.v (.int n)), some (.ref 0), some (.v (.int c)), some (.v (.int i)), some (.v .non)] ++ r, _, ?_, .inl rfl, rfl, _, _, rfl⟩
    simp [hrun, encO, Fy.isNon, addP]
  | some p =>
    rw [ho] at hrun
    refine ⟨.nx, [some (.v (.int n)), some (.ref 0), some (.v (.int c)), some (.v (.int i)), some (.v (encP p))] ++ r, _, ?_, .inl rfl, rfl, _, _, rfl⟩
    simp [hrun, encO, isNon_enc, addP, set_found hlen]
theorem eq_mod0 {n c : Int} (h0 : 0 < c) : (c = 0 ∨ n % c = 0) ↔ n % c = 0 := ⟨fun h => h.elim (fun e => absurd e (by omega)) id, .inr⟩
theorem found_bd {n : Int} (hn : okn n) {i : Int} (h1 : i < n) : (foundF n i.toNat).length ≤ 10000 := by
  have := foundF_len n i.toNat
  unfold okn at hn
  have : i.toNat * n.toNat ≤ 100 * 100 := Nat.mul_le_mul (by omega) (by omega)
  omega
theorem found_bd2 {n : Int} (hn : okn n) : (foundF n n.toNat).length ≤ 10000 := by
  have := foundF_len n n.toNat
  unfold okn at hn
  have : n.toNat * n.toNat ≤ 100 * 100 := Nat.mul_le_mul (by omega) (by omega)
  omega
theorem found_succ {n i : Int} (h : 0 ≤ i) : foundF n (i + 1).toNat = if okc n i then rowF n i (foundF n i.toNat) n.toNat else foundF n i.toNat := by
  rw [show (i + 1).toNat = i.toNat + 1 by omega]
  show (if okc n (i.toNat : Nat) then rowF n (i.toNat : Nat) _ _ else _) = _
  rw [show ((i.toNat : Nat) : Int) = i by omega]
theorem run_symbols (n : Int) (hn : okn n) : runP f_symbols [.int n] = some (.lst ((rowsP n).map encP)) := by
  unfold runP f_symbols defn b_symbols
  have step : ∀ i ρ S, 0 ≤ i → i < n → (S = sto (foundF n i.toNat) ∧ ∃ z x y, ρ = [some (.v (.int n)), some (.ref 0), z, x, y]) →
      ∃ fl ρ' S', ((xgname 2 (.v (.int i)) ρ S).bind fun q => (xifS (xtor (xtb (xop eqF (xvar 2) (xc (.int 0)))) (xtb (xop eqF (xop modF (xvar 0) (xvar 2)) (xc (.int 0))))) (xfor (xirng1 (xvar 0)) (xgname 3) (xseq (xasg 4 (xcallP f_symbol_of (xcons (xvar 0) (xcons (xvar 2) (xcons (xvar 3) xnil))))) (xifS (xtb (xop notNF (xvar 4) (xc .non))) (xasgG (xgsub (xvar 1) (xvar 4)) (xc (.bl true))) xskip))) xskip) q.1 q.2) = some (fl, ρ', S') ∧ (fl = .nx ∨ fl = .ct) ∧
        (S' = sto (foundF n (i + 1).toNat) ∧ ∃ z x y, ρ' = [some (.v (.int n)), some (.ref 0), z, x, y]) := by
    rintro i ρ S h0 h1 ⟨rfl, z, x, y, rfl⟩
    rw [found_succ h0]
    obtain ⟨ρ', S', r1, rfl, x', y', rfl⟩ := row_loop (k := 0) (fs := 0) (vs := 0) (r := []) hn h0 h1 (g := f_symbol_of) (fun c d sc sd => run_symbol_of n c d hn sc sd) (foundF n i.toNat) (found_bd hn h1) rfl x y
    simp only [List.append_nil] at r1
    by_cases c0 : i = 0
    · subst c0
      have : okc n 0 := .inl rfl
      rw [if_pos this]
      refine ⟨.nx, [some (.v (.int n)), some (.ref 0), some (.v (.int 0)), x', y'], _, ?_, .inl rfl, rfl, _, _, _, rfl⟩
      simp only [Int.toNat_zero] at r1 ⊢
      simp [rng_ok hn, r1]
    · have ip : 0 < i := by omega
      by_cases c1 : n % i = 0
      · rw [if_pos (.inr c1)]
        refine ⟨.nx, [some (.v (.int n)), some (.ref 0), some (.v (.int i)), x', y'], _, ?_, .inl rfl, rfl, _, _, _, rfl⟩
        simp [rng_ok hn, r1, c0, ip, c1]
      · rw [if_neg (fun z => z.elim c0 c1)]
        refine ⟨.nx, [some (.v (.int n)), some (.ref 0), some (.v (.int i)), x, y], _, ?_, .inl rfl, rfl, _, _, _, rfl⟩
        simp [c0, ip, c1]
  obtain ⟨ρ', S', h1, rfl, z, x, y, rfl⟩ := for_rng (lo := 0) (hi := n) (g := xgname 2) _ (by unfold okn at hn; omega) step (ρ := [some (.v (.int n)), some (.ref 0), none, none, none]) (S := [.dT []]) ⟨rfl, none, none, none, rfl⟩
  have hs := sort_found (l := foundF n n.toNat) (by have := found_bd2 hn; unfold LIM; omega)
  simp [rng_ok hn, h1, hs]
  rfl
/-! the law's symbols -/
theorem num_step (rows : List (Int × Int)) (hr : rows.Nodup) (i : Nat) (p : Int × Int) (hp : rows[i]? = some p) : dput (numK (rows.take i) 0) (keyP p) (.v (.int i)) = numK (rows.take (i + 1)) 0 := by
  have hi := (List.getElem?_eq_some_iff.mp hp).1
  have ep := (List.getElem?_eq_some_iff.mp hp).2
  have nm : p ∉ rows.take i := by
    intro z
    obtain ⟨j, hj⟩ := List.mem_iff_getElem?.mp z
    rw [List.getElem?_take] at hj
    split at hj
    · rename_i hlt
      have := (List.getElem?_inj (List.getElem?_eq_some_iff.mp hj).1 hr).mp (hj.trans hp.symm)
      omega
    · cases hj
  rw [dput_N (v := fun _ => .v .non) nm _ (numK_keys _ 0), List.take_add_one, hp]
  unfold numK
  rw [Option.toList_some, List.zipIdx_append, List.map_append]
  simp [List.length_take]
  omega
def numsto (n : Int) (l : List (Int × Int)) : Sto := [.dT ((foundF n n.toNat).map kvT), .dT (numK l 0)]
theorem max_int {S : Sto} {i j : Int} : maxF S [.v (.int i), .v (.int j)] = some (.v (.int (if j > i then j else i))) := rfl
theorem rows_nodup (n : Int) : (rowsP n).Nodup := (isort_perm _).nodup_iff.mpr (foundF_nodup n _)
theorem rows_len {n : Int} (hn : okn n) : (rowsP n).length ≤ 10000 := by
  unfold rowsP
  rw [isort_length]
  exact found_bd2 hn
theorem numK_len (l : List (Int × Int)) (k : Nat) : (numK l k).length = l.length := by unfold numK; simp
theorem run_law_symbols (n : Int) (hn : okn n) : runP f__law_symbols [.int n] = some (.tup true [.lst ((rowsP n).map encP), numD (rowsP n)]) := by
  unfold runP f__law_symbols defn b__law_symbols
  have step : ∀ i ρ S, 0 ≤ i → i < n → (S = sto (foundF n i.toNat) ∧ ∃ z x y, ρ = [some (.v (.int n)), some (.ref 0), z, x, y, none, none, none]) →
      ∃ fl ρ' S', ((xgname 2 (.v (.int i)) ρ S).bind fun q => (xifS (xtb (xop eqF (xop modF (xcall intF (xcons (xvar 0) xnil)) (xcall maxF (xcons (xvar 2) (xcons (xc (.int 1)) xnil)))) (xc (.int 0)))) (xfor (xirng1 (xvar 0)) (xgname 3) (xseq (xasg 4 (xcallP f__law_symbol (xcons (xvar 0) (xcons (xvar 2) (xcons (xvar 3) xnil))))) (xifS (xtb (xop notNF (xvar 4) (xc .non))) (xasgG (xgsub (xvar 1) (xvar 4)) (xc (.bl true))) xskip))) xskip) q.1 q.2) = some (fl, ρ', S') ∧ (fl = .nx ∨ fl = .ct) ∧
        (S' = sto (foundF n (i + 1).toNat) ∧ ∃ z x y, ρ' = [some (.v (.int n)), some (.ref 0), z, x, y, none, none, none]) := by
    rintro i ρ S h0 h1 ⟨rfl, z, x, y, rfl⟩
    rw [found_succ h0]
    obtain ⟨ρ', S', r1, rfl, x', y', rfl⟩ := row_loop (k := 0) (fs := 0) (vs := 3) (r := [none, none, none]) hn h0 h1 (g := f__law_symbol) (fun c d sc sd => run_law_symbol n c d hn sc sd) (foundF n i.toNat) (found_bd hn h1) rfl x y
    simp only [List.cons_append, List.nil_append] at r1
    by_cases c0 : i = 0
    · subst c0
      have : okc n 0 := .inl rfl
      rw [if_pos this]
      refine ⟨.nx, [some (.v (.int n)), some (.ref 0), some (.v (.int 0)), x', y', none, none, none], _, ?_, .inl rfl, rfl, _, _, _, rfl⟩
      simp only [Int.toNat_zero] at r1 ⊢
      simp [rng_ok hn, r1, max_int]
    · have ip : 0 < i := by omega
      have em : (if (1 : Int) > i then 1 else i) = i := if_neg (by omega)
      by_cases c1 : n % i = 0
      · rw [if_pos (.inr c1)]
        refine ⟨.nx, [some (.v (.int n)), some (.ref 0), some (.v (.int i)), x', y', none, none, none], _, ?_, .inl rfl, rfl, _, _, _, rfl⟩
        have em2 : maxF (sto (foundF n i.toNat)) [.v (.int i), .v (.int 1)] = some (.v (.int i)) := by rw [max_int, em]
        simp [rng_ok hn, r1, ip, c1, em2]
      · rw [if_neg (fun z => z.elim c0 c1)]
        refine ⟨.nx, [some (.v (.int n)), some (.ref 0), some (.v (.int i)), x, y, none, none, none], _, ?_, .inl rfl, rfl, _, _, _, rfl⟩
        have em2 : maxF (sto (foundF n i.toNat)) [.v (.int i), .v (.int 1)] = some (.v (.int i)) := by rw [max_int, em]
        simp [em2, ip, c1]
  obtain ⟨ρ', S', h1, rfl, z, x, y, rfl⟩ := for_rng (lo := 0) (hi := n) (g := xgname 2) _ (by unfold okn at hn; omega) step (ρ := [some (.v (.int n)), some (.ref 0), none, none, none, none, none, none]) (S := [.dT []]) ⟨rfl, none, none, none, rfl⟩
  have hs := sort_found (l := foundF n n.toNat) (by have := found_bd2 hn; unfold LIM; omega)
  have hlen := rows_len hn
  have step2 : ∀ i ρ S, 0 ≤ i → i < ((rowsP n).length : Int) → (S = numsto n ((rowsP n).take i.toNat) ∧ ∃ w, ρ = [some (.v (.int n)), some (.ref 0), z, x, y, some (.v (.lst ((rowsP n).map encP))), some (.ref 1), w]) →
      ∃ fl ρ' S', ((xgname 7 (.v (.int i)) ρ S).bind fun q => (xasgG (xgsub (xvar 6) (xop ixF (xvar 5) (xvar 7))) (xvar 7)) q.1 q.2) = some (fl, ρ', S') ∧ (fl = .nx ∨ fl = .ct) ∧
        (S' = numsto n ((rowsP n).take (i + 1).toNat) ∧ ∃ w, ρ' = [some (.v (.int n)), some (.ref 0), z, x, y, some (.v (.lst ((rowsP n).map encP))), some (.ref 1), w]) := by
    rintro i ρ S h0 h1 ⟨rfl, w, rfl⟩
    obtain ⟨j, rfl⟩ := Int.eq_ofNat_of_zero_le h0
    have hlt : j < (rowsP n).length := by omega
    have hp : (rowsP n)[j]? = some ((rowsP n)[j]) := List.getElem?_eq_getElem hlt
    generalize (rowsP n)[j] = p at hp
    have hix : ∀ S, ixF S (.v (.lst ((rowsP n).map encP))) (.v (.int (j : Int))) = some (.v (encP p)) := fun S => by
      show atI (((rowsP n).map encP).map W.v) (j : Int) = _
      refine atI_nat ?_
      rw [List.getElem?_map, List.getElem?_map, hp]
      rfl
    have hset : setF (numsto n ((rowsP n).take j)) (.ref 1) (.v (encP p)) (.v (.int (j : Int))) = some (numsto n ((rowsP n).take (j + 1))) := by
      show (if (numK ((rowsP n).take j) 0).length < LIM then (keyT (.v (encP p))).map fun key => (numsto n ((rowsP n).take j)).set 1 (.dT (dput (numK ((rowsP n).take j) 0) key (.v (.int (j : Int))))) else none) = _
      rw [if_pos (by rw [numK_len, List.length_take]; unfold LIM; omega), keyT_enc]
      have e := num_step (rowsP n) (rows_nodup n) j p hp
      unfold numsto
      rw [← e]
      rfl
    rw [show ((j : Nat) : Int).toNat = j by omega, show (((j : Nat) : Int) + 1).toNat = j + 1 by omega]
    refine ⟨.nx, [some (.v (.int n)), some (.ref 0), z, x, y, some (.v (.lst ((rowsP n).map encP))), some (.ref 1), some (.v (.int (j : Int)))], _, ?_, .inl rfl, rfl, _, rfl⟩
    simp [hix, hset]
  obtain ⟨ρ', S', h2, rfl, w, rfl⟩ := for_rng (lo := 0) (hi := ((rowsP n).length : Int)) (g := xgname 7) _ (by omega) step2 (ρ := [some (.v (.int n)), some (.ref 0), z, x, y, some (.v (.lst ((rowsP n).map encP))), some (.ref 1), none]) (S := numsto n []) ⟨rfl, none, rfl⟩
  have hr : rngOk 0 ((rowsP n).length : Int) = true := by rw [rngOk_iff]; unfold BIG; omega
  have hlf : ∀ S, lenF S [.v (.lst ((rowsP n).map encP))] = some (.v (.int ((rowsP n).length : Nat))) := fun S => by
    show some (W.v (.int ((((rowsP n).map encP).map W.v).length : Nat))) = _
    simp
  have hs2 : sortF (sto (foundF n n.toNat)) [.ref 0] = some ((rowsP n).map fun q => W.v (encP q)) := hs
  have es : sto (foundF n n.toNat) ++ [.dT []] = numsto n [] := rfl
  have el : (sto (foundF n n.toNat)).length = 1 := rfl
  rw [show ((rowsP n).length : Int).toNat = (rowsP n).length by omega, List.take_length] at h2
  have hfr : mapO (frzW 0 (numsto n (rowsP n)) 4) [.v (.lst ((rowsP n).map encP)), .ref 1] = some [.lst ((rowsP n).map encP), numD (rowsP n)] := by
    have hv : (numK (rowsP n) 0).map (·.2) = ((List.range (rowsP n).length).map fun i : Nat => D.int (i : Int)).map W.v := by
      have gen : ∀ (l : List (Int × Int)) (k : Nat), (numK l k).map (·.2) = ((List.range' k l.length).map fun i : Nat => D.int (i : Int)).map W.v := by
        intro l
        induction l with
        | nil => intro k; rfl
        | cons p l ih =>
          intro k
          show W.v (.int (k : Nat)) :: (numK l (k + 1)).map (·.2) = _
          rw [ih, List.length_cons, List.range'_succ]; rfl
      rw [gen, List.range_eq_range']
    have hm : mapO (frzW 0 (numsto n (rowsP n)) 3) (((List.range (rowsP n).length).map fun i : Nat => D.int (i : Int)).map W.v) = some ((List.range (rowsP n).length).map fun i : Nat => D.int (i : Int)) := by
      generalize ((List.range (rowsP n).length).map fun i : Nat => D.int (i : Int)) = l
      induction l with
      | nil => rfl
      | cons d l ih =>
        show ((frzW 0 _ 3 (.v d)).bind fun d => (mapO _ (l.map W.v)).map (d :: ·)) = _
        rw [ih]; rfl
    show ((frzW 0 _ 4 (.v _)).bind fun d => ((((mapO (frzW 0 (numsto n (rowsP n)) 3) ((numK (rowsP n) 0).map (·.2))).map fun ds => D.dT ((numK (rowsP n) 0).map (·.1)) ds).bind fun d => (some []).map (d :: ·))).map (d :: ·)) = _
    rw [hv, hm, numK_keys]
    rfl
  simp [rng_ok hn, h1, hs2, hlf, hr, es, el, h2, LIM, frzR, hfr]
end Q58
namespace Q58
open PySem PySem.Spec PyProof.Rows L2 Fy
/-! ## each symbol stands among the rows -/
def chk1 : Bool := (List.range 101).all fun n => (List.range n).all fun c => (List.range n).any fun u => Nat.gcd u n == 1 && u * c % n == Nat.gcd c n % n
def chk2 : Bool := (List.range 101).all fun n => (List.range n).all fun u => !(Nat.gcd u n == 1) || (List.range n).any fun v => Nat.gcd v n == 1 && u * v % n == 1 % n
theorem chk1_ok : chk1 = true := by decide +kernel
theorem chk2_ok : chk2 = true := by decide +kernel
theorem mul_em (u x n : Int) : u * (x % n) % n = u * x % n := by
  rw [Int.mul_emod, Int.emod_emod_of_dvd _ (Int.dvd_refl n), ← Int.mul_emod]
theorem em_mul (u x n : Int) : (u % n) * x % n = u * x % n := by rw [Int.mul_comm, mul_em, Int.mul_comm]
theorem dv_emod {t x n : Int} (h : t ∣ n) : t ∣ x % n ↔ t ∣ x := by
  have e := Int.emod_add_mul_ediv x n
  have h2 : t ∣ n * (x / n) := Int.dvd_trans h (Int.dvd_mul_right n _)
  constructor
  · intro z
    rw [← e]; exact Int.dvd_add z h2
  · intro z
    have : x % n = x - n * (x / n) := by omega
    rw [this]; exact Int.dvd_sub z h2
theorem gI_iff (a b : Int) : gI a b = 1 ↔ ∀ t : Nat, (t : Int) ∣ a → (t : Int) ∣ b → t = 1 := by
  unfold gI
  constructor
  · intro h t ha hb
    have : t ∣ Nat.gcd a.natAbs b.natAbs := Nat.dvd_gcd (Int.ofNat_dvd_left.mp ha) (Int.ofNat_dvd_left.mp hb)
    have e : Nat.gcd a.natAbs b.natAbs = 1 := by omega
    rw [e] at this
    exact Nat.dvd_one.mp this
  · intro h
    have := h (Nat.gcd a.natAbs b.natAbs) (Int.ofNat_dvd_left.mpr (Nat.gcd_dvd_left _ _)) (Int.ofNat_dvd_left.mpr (Nat.gcd_dvd_right _ _))
    omega
theorem gI_dvd {t : Nat} (a b : Int) : (t : Int) ∣ gI a b ↔ (t : Int) ∣ a ∧ (t : Int) ∣ b := by
  unfold gI
  rw [Int.natCast_dvd_natCast]
  constructor
  · intro h
    exact ⟨Int.ofNat_dvd_left.mpr (Nat.dvd_trans h (Nat.gcd_dvd_left _ _)), Int.ofNat_dvd_left.mpr (Nat.dvd_trans h (Nat.gcd_dvd_right _ _))⟩
  · rintro ⟨ha, hb⟩
    exact Nat.dvd_gcd (Int.ofNat_dvd_left.mp ha) (Int.ofNat_dvd_left.mp hb)
theorem cop3 (c d n : Int) : gI (gI c d) n = 1 ↔ ∀ t : Nat, (t : Int) ∣ c → (t : Int) ∣ d → (t : Int) ∣ n → t = 1 := by
  rw [gI_iff]
  constructor
  · intro h t a b e; exact h t ((gI_dvd c d).mpr ⟨a, b⟩) e
  · intro h t a e; obtain ⟨x, y⟩ := (gI_dvd c d).mp a; exact h t x y e
/-- an inverse -/
theorem unit_inv {n u : Int} (hn : okn n) (h : u ∈ unitsL n) : ∃ v, v ∈ unitsL n ∧ (u * v) % n = 1 % n := by
  obtain ⟨h0, h1, h2⟩ := units_mem h
  unfold okn at hn
  obtain ⟨m, rfl⟩ := Int.eq_ofNat_of_zero_le (show 0 ≤ n by omega)
  obtain ⟨k, rfl⟩ := Int.eq_ofNat_of_zero_le h0
  have a1 := List.all_eq_true.mp chk2_ok m (List.mem_range.mpr (by omega))
  have a2 := List.all_eq_true.mp a1 k (List.mem_range.mpr (by omega))
  have g : Nat.gcd k m = 1 := by
    have : ((Nat.gcd k m : Nat) : Int) = 1 := h2
    omega
  rw [g] at a2
  simp only [beq_self_eq_true, Bool.not_true, Bool.false_or] at a2
  obtain ⟨v, hv, b⟩ := List.any_eq_true.mp a2
  rw [List.mem_range] at hv
  rw [Bool.and_eq_true, beq_iff_eq, beq_iff_eq] at b
  refine ⟨(v : Int), mem_units (by omega) (by omega) ?_, ?_⟩
  · show ((Nat.gcd v m : Nat) : Int) = 1
    omega
  · have := b.2
    exact_mod_cast this
theorem unit_gcd {n : Int} (hn : okn n) (c : Int) : ∃ u, u ∈ unitsL n ∧ u * c % n = gI (c % n) n % n := by
  unfold okn at hn
  have c0 : 0 ≤ c % n := Int.emod_nonneg _ (by omega)
  have c1 : c % n < n := Int.emod_lt_of_pos _ (by omega)
  obtain ⟨m, rfl⟩ := Int.eq_ofNat_of_zero_le (show 0 ≤ n by omega)
  obtain ⟨k, hk⟩ := Int.eq_ofNat_of_zero_le c0
  have a1 := List.all_eq_true.mp chk1_ok m (List.mem_range.mpr (by omega))
  have a2 := List.all_eq_true.mp a1 k (List.mem_range.mpr (by omega))
  obtain ⟨u, hu, b⟩ := List.any_eq_true.mp a2
  rw [List.mem_range] at hu
  rw [Bool.and_eq_true, beq_iff_eq, beq_iff_eq] at b
  refine ⟨(u : Int), mem_units (by omega) (by omega) ?_, ?_⟩
  · show ((Nat.gcd u m : Nat) : Int) = 1
    omega
  · rw [← mul_em, hk]
    show (u : Int) * (k : Int) % m = ((Nat.gcd k m : Nat) : Int) % m
    exact_mod_cast b.2
theorem unit_mul {n u v : Int} (hn : okn n) (hu : u ∈ unitsL n) (hv : v ∈ unitsL n) : (u * v) % n ∈ unitsL n := by
  have hn' := hn
  unfold okn at hn
  refine mem_units (Int.emod_nonneg _ (by omega)) (Int.emod_lt_of_pos _ (by omega)) ?_
  rw [gI_iff]
  intro t a b
  rw [dv_emod b] at a
  obtain ⟨w, _, hw⟩ := unit_inv hn' hu
  have hv1 := (gI_iff v n).mp (units_mem hv).2.2 t
  refine hv1 ?_ b
  -- v = w u v mod n
  have e : (t : Int) ∣ w * (u * v) := Int.dvd_trans a (Int.dvd_mul_left _ _)
  have e2 : (w * (u * v)) % n = v % n := by
    rw [show w * (u * v) = (u * w) * v by rw [← Int.mul_assoc, Int.mul_comm w u], Int.mul_emod, hw, ← Int.mul_emod, Int.one_mul]
  rw [← dv_emod b, ← e2, dv_emod b]
  exact e
/-! least pairs -/
theorem ltP_iff (p q : Int × Int) : ltP p q = true ↔ p.1 < q.1 ∨ (p.1 = q.1 ∧ p.2 < q.2) := by
  show HT.lexLt [p.1, p.2] [q.1, q.2] = true ↔ _
  rw [HT.lexLt_cons, HT.lexLt_cons]
  by_cases h : p.1 = q.1
  · rw [if_pos h]
    by_cases h2 : p.2 = q.2
    · rw [if_pos h2]
      simp [HT.lexLt_nil_nil, h, h2]
    · rw [if_neg h2]
      simp [h]
  · rw [if_neg h]
    simp [h]
theorem min_spec : ∀ (l : List (Int × Int)) (o : Option (Int × Int)) (p : Int × Int), l.foldl minP o = some p → (p ∈ l ∨ o = some p) ∧ (∀ q ∈ l, ltP q p = false) ∧ ∀ q, o = some q → ltP q p = false
  | [], o, p, h => by
    have h : o = some p := h
    subst h
    refine ⟨.inr rfl, by simp, fun q e => ?_⟩
    cases e
    exact swo_ltP.refl p
  | x :: l, o, p, h => by
    have h : l.foldl minP (minP o x) = some p := h
    obtain ⟨h1, h2, h3⟩ := min_spec l (minP o x) p h
    cases o with
    | none =>
      have h3 := h3 x rfl
      refine ⟨.inl ?_, fun q hq => ?_, by simp⟩
      · rcases h1 with h1 | h1
        · exact List.mem_cons_of_mem _ h1
        · have : x = p := by injection h1
          rw [this]; exact List.mem_cons_self
      · rcases List.mem_cons.mp hq with e | hq
        · rw [e]; exact h3
        · exact h2 q hq
    | some y =>
      have h3 := h3 (if ltP x y = true then x else y) rfl
      have key : ltP x p = false ∧ ltP y p = false := by
        by_cases c : ltP x y = true
        · rw [if_pos c] at h3
          exact ⟨h3, swo_ltP.tr p x y h3 (swo_ltP.asym x y c)⟩
        · rw [if_neg c] at h3
          have c' : ltP x y = false := by cases q : ltP x y <;> simp_all
          exact ⟨swo_ltP.tr p y x h3 c', h3⟩
      refine ⟨?_, fun q hq => ?_, fun q e => ?_⟩
      · rcases h1 with h1 | h1
        · exact .inl (List.mem_cons_of_mem _ h1)
        · have h1 : some (if ltP x y = true then x else y) = some p := h1
          injection h1 with h1
          by_cases c : ltP x y = true
          · rw [if_pos c] at h1
            exact .inl (by rw [h1]; exact List.mem_cons_self)
          · rw [if_neg c] at h1
            exact .inr (by rw [h1])
      · rcases List.mem_cons.mp hq with e | hq
        · rw [e]; exact key.1
        · exact h2 q hq
      · cases e; exact key.2
theorem min_some : ∀ (l : List (Int × Int)) (o : Option (Int × Int)), (l ≠ [] ∨ o ≠ none) → ∃ p, l.foldl minP o = some p
  | [], none, h => by simp at h
  | [], some p, _ => ⟨p, rfl⟩
  | x :: l, o, _ => by
    show ∃ p, l.foldl minP (minP o x) = some p
    exact min_some l _ (.inr (by cases o <;> simp [minP]))
theorem min_of {l : List (Int × Int)} {p : Int × Int} (h : p ∈ l) (hm : ∀ q ∈ l, ltP q p = false) : l.foldl minP none = some p := by
  obtain ⟨q, hq⟩ := min_some l none (.inl (List.ne_nil_of_mem h))
  obtain ⟨h1, h2, _⟩ := min_spec l none q hq
  have hq1 : q ∈ l := by
    rcases h1 with z | z
    · exact z
    · cases z
  have a := h2 p h
  have b := hm q hq1
  have e : q = p := by
    have a' : ¬ (p.1 < q.1 ∨ (p.1 = q.1 ∧ p.2 < q.2)) := fun z => by rw [(ltP_iff p q).mpr z] at a; cases a
    have b' : ¬ (q.1 < p.1 ∨ (q.1 = p.1 ∧ q.2 < p.2)) := fun z => by rw [(ltP_iff q p).mpr z] at b; cases b
    apply Prod.ext <;> omega
  rw [hq, e]
def orbit (n c d : Int) : List (Int × Int) := (unitsL n).map fun u => (u * c % n, u * d % n)
theorem sym_row {n c d : Int} {p : Int × Int} (hn : okn n) (h : symP n c d = some p) : p ∈ rowsP n := by
  have hn' := hn
  unfold okn at hn
  unfold symP at h
  split at h
  · rename_i g
    have h : (orbit n c d).foldl minP none = some p := h
    obtain ⟨h1, h2, _⟩ := min_spec _ _ _ h
    have hp : p ∈ orbit n c d := by
      rcases h1 with z | z
      · exact z
      · cases z
    obtain ⟨u0, hu0, e0⟩ := List.mem_map.mp hp
    subst e0
    obtain ⟨w0, hw0, ew⟩ := unit_inv hn' hu0
    have r1 : 0 ≤ u0 * c % n ∧ u0 * c % n < n := ⟨Int.emod_nonneg _ (by omega), Int.emod_lt_of_pos _ (by omega)⟩
    have r2 : 0 ≤ u0 * d % n ∧ u0 * d % n < n := ⟨Int.emod_nonneg _ (by omega), Int.emod_lt_of_pos _ (by omega)⟩
    -- the pair's own orbit is the same
    have sub : ∀ q, q ∈ orbit n (u0 * c % n) (u0 * d % n) → q ∈ orbit n c d := by
      intro q hq
      obtain ⟨u, hu, e⟩ := List.mem_map.mp hq
      refine List.mem_map.mpr ⟨(u * u0) % n, unit_mul hn' hu hu0, ?_⟩
      rw [← e, em_mul, em_mul, mul_em, mul_em, Int.mul_assoc, Int.mul_assoc]
    have back : (u0 * c % n, u0 * d % n) ∈ orbit n (u0 * c % n) (u0 * d % n) := by
      refine List.mem_map.mpr ⟨(u0 * w0) % n, unit_mul hn' hu0 hw0, ?_⟩
      rw [ew, em_mul, em_mul, Int.one_mul, Int.one_mul, Int.emod_emod_of_dvd _ (Int.dvd_refl n), Int.emod_emod_of_dvd _ (Int.dvd_refl n)]
    have g2 : gI (gI (u0 * c % n) (u0 * d % n)) n = 1 := by
      rw [cop3] at g ⊢
      intro t a b e
      rw [dv_emod e] at a b
      have inv : ∀ x : Int, (t : Int) ∣ u0 * x → (t : Int) ∣ x := fun x hx => by
        have e1 : (t : Int) ∣ w0 * (u0 * x) := Int.dvd_trans hx (Int.dvd_mul_left _ _)
        have e2 : (w0 * (u0 * x)) % n = x % n := by
          rw [show w0 * (u0 * x) = (u0 * w0) * x by rw [← Int.mul_assoc, Int.mul_comm w0 u0], Int.mul_emod, ew, ← Int.mul_emod, Int.one_mul]
        rw [← dv_emod e, ← e2, dv_emod e]; exact e1
      exact g t (inv c a) (inv d b) e
    have self : symP n (u0 * c % n) (u0 * d % n) = some (u0 * c % n, u0 * d % n) := by
      unfold symP
      rw [if_pos g2]
      exact min_of back fun q hq => h2 q (sub q hq)
    have oc : okc n (u0 * c % n) := by
      obtain ⟨u, hu, eu⟩ := unit_gcd hn' c
      have hq := h2 (u * c % n, u * d % n) (List.mem_map.mpr ⟨u, hu, rfl⟩)
      have le : u0 * c % n ≤ u * c % n := by
        have z : ¬ (u * c % n < u0 * c % n ∨ (u * c % n = u0 * c % n ∧ u * d % n < u0 * d % n)) := fun z => by
          rw [(ltP_iff _ _).mpr z] at hq; cases hq
        omega
      rw [eu] at le
      by_cases z : u0 * c % n = 0
      · exact .inl z
      · right
        have gp : gI (c % n) n ∣ u0 * c % n := by
          have d1 : gI (c % n) n ∣ n := by
            have := (gI_dvd (t := Nat.gcd (c % n).natAbs n.natAbs) (c % n) n).mp (Int.dvd_refl _)
            exact this.2
          have d2 : gI (c % n) n ∣ c % n := by
            have := (gI_dvd (t := Nat.gcd (c % n).natAbs n.natAbs) (c % n) n).mp (Int.dvd_refl _)
            exact this.1
          rw [dv_emod d1]
          exact Int.dvd_trans ((dv_emod d1).mp d2) (Int.dvd_mul_left _ _)
        have g0 : 0 ≤ gI (c % n) n := by unfold gI; omega
        have l2 : gI (c % n) n ≤ u0 * c % n := Int.le_of_dvd (by omega) gp
        have l3 : gI (c % n) n % n = gI (c % n) n := Int.emod_eq_of_lt g0 (by omega)
        rw [l3] at le
        have e : u0 * c % n = gI (c % n) n := by omega
        rw [e]
        have d1 : gI (c % n) n ∣ n := by
          have := (gI_dvd (t := Nat.gcd (c % n).natAbs n.natAbs) (c % n) n).mp (Int.dvd_refl _)
          exact this.2
        exact Int.emod_eq_zero_of_dvd d1
    generalize u0 * c % n = x at r1 self oc
    generalize u0 * d % n = y at r2 self
    -- it is found
    have mono1 : ∀ (l : List (Int × Int)) (d : Nat) (q : Int × Int) (c : Int), q ∈ l → q ∈ rowF n c l d := by
      intro l d q c hq
      induction d with
      | zero => exact hq
      | succ d ih =>
        show q ∈ addP _ _
        cases symP n c d with
        | none => exact ih
        | some p => exact insP_mem.mpr (.inl ih)
    have in1 : ∀ (l : List (Int × Int)) (k : Nat), y.toNat < k → (x, y) ∈ rowF n x l k := by
      intro l k hk
      induction k with
      | zero => omega
      | succ k ih =>
        show (x, y) ∈ addP _ _
        by_cases e : y.toNat = k
        · have : ((k : Nat) : Int) = y := by omega
          rw [this, self]
          exact insP_mem.mpr (.inr rfl)
        · have := ih (by omega)
          cases symP n x k with
          | none => exact this
          | some p => exact insP_mem.mpr (.inl this)
    have in2 : ∀ k : Nat, x.toNat < k → (x, y) ∈ foundF n k := by
      intro k hk
      induction k with
      | zero => omega
      | succ k ih =>
        show (x, y) ∈ (if okc n k then rowF n k (foundF n k) n.toNat else foundF n k)
        by_cases e : x.toNat = k
        · have : ((k : Nat) : Int) = x := by omega
          rw [this, if_pos oc]
          exact in1 _ _ (by omega)
        · have := ih (by omega)
          split
          · exact mono1 _ _ _ _ this
          · exact this
    exact (isort_perm _).mem_iff.mpr (in2 n.toNat (by omega))
  · cases h
end Q58
namespace Q58
open PySem PySem.Spec PyProof.Rows L2 Fy
/-! ## the matrices of a prime -/
abbrev T4 := Nat × Nat × Nat × Nat
def enc4 (q : T4) : D := .tup true [.int q.1, .int q.2.1, .int q.2.2.1, .int q.2.2.2]
def lt4 (p q : T4) : Bool := HT.lexLt [p.1, p.2.1, p.2.2.1, p.2.2.2] [q.1, q.2.1, q.2.2.1, q.2.2.2]
theorem ltW_enc4 (p q : T4) : ltW (.v (enc4 p)) (.v (enc4 q)) = lt4 p q := rfl
def hc (p a b : Nat) (l : List T4) : Nat → List T4
  | 0 => l
  | k + 1 => if (p + b * k) % a = 0 ∧ k < (p + b * k) / a then hc p a b l k ++ [(a, b, k, (p + b * k) / a)] else hc p a b l k
def hb (p a : Nat) (l : List T4) : Nat → List T4
  | 0 => l
  | b + 1 => hc p a b (hb p a l b) (p + 1)
def ha (p : Nat) : Nat → List T4
  | 0 => []
  | a + 1 => hb p (a + 1) (ha p a) (a + 1)
def lcs (p a d b : Nat) : List T4 := ((List.range d).filter fun c => decide (a * d = p + b * c)).map fun c => (a, b, c, d)
def lb (p a d : Nat) (l : List T4) : Nat → List T4
  | 0 => l
  | b + 1 => lb p a d l b ++ lcs p a d b
def ld (p a : Nat) (l : List T4) : Nat → List T4
  | 0 => l
  | d + 1 => lb p a (d + 1) (ld p a l d) a
def la (p : Nat) : Nat → List T4
  | 0 => []
  | a + 1 => ld p (a + 1) (la p a) p
theorem hc_len (p a b : Nat) (l : List T4) : ∀ k, (hc p a b l k).length ≤ l.length + k
  | 0 => Nat.le_refl _
  | k + 1 => by
    have := hc_len p a b l k
    unfold hc
    split
    · simp; omega
    · omega
theorem hb_len (p a : Nat) (l : List T4) : ∀ b, (hb p a l b).length ≤ l.length + b * (p + 1)
  | 0 => by simp [hb]
  | b + 1 => by
    have h1 := hb_len p a l b
    have h2 := hc_len p a b (hb p a l b) (p + 1)
    have e : (b + 1) * (p + 1) = b * (p + 1) + (p + 1) := by rw [Nat.add_mul, Nat.one_mul]
    show (hc p a b (hb p a l b) (p + 1)).length ≤ _
    omega
theorem ha_len (p : Nat) : ∀ a, a ≤ p → (ha p a).length ≤ a * (p * (p + 1))
  | 0, _ => by simp [ha]
  | a + 1, h => by
    have h1 := ha_len p a (by omega)
    have h2 := hb_len p (a + 1) (ha p a) (a + 1)
    have e : (a + 1) * (p * (p + 1)) = a * (p * (p + 1)) + p * (p + 1) := by rw [Nat.add_mul, Nat.one_mul]
    have h3 : (a + 1) * (p + 1) ≤ p * (p + 1) := Nat.mul_le_mul_right _ h
    show (hb p (a + 1) (ha p a) (a + 1)).length ≤ _
    omega
theorem lb_len (p a d : Nat) (l : List T4) : ∀ b, (lb p a d l b).length ≤ l.length + b * d
  | 0 => by simp [lb]
  | b + 1 => by
    have h1 := lb_len p a d l b
    have h2 : (lcs p a d b).length ≤ d := by
      unfold lcs
      rw [List.length_map]
      refine Nat.le_trans (List.length_filter_le _ _) ?_
      simp
    have e : (b + 1) * d = b * d + d := by rw [Nat.add_mul, Nat.one_mul]
    show (lb p a d l b ++ lcs p a d b).length ≤ _
    rw [List.length_append]; omega
theorem ld_len (p a : Nat) (l : List T4) (ha : a ≤ p) : ∀ d, d ≤ p → (ld p a l d).length ≤ l.length + d * (p * p)
  | 0, _ => by simp [ld]
  | d + 1, h => by
    have h1 := ld_len p a l ha d (by omega)
    have h2 := lb_len p a (d + 1) (ld p a l d) a
    have e : (d + 1) * (p * p) = d * (p * p) + p * p := by rw [Nat.add_mul, Nat.one_mul]
    have h3 : a * (d + 1) ≤ p * p := Nat.mul_le_mul ha h
    show (lb p a (d + 1) (ld p a l d) a).length ≤ _
    omega
theorem la_len (p : Nat) : ∀ a, a ≤ p → (la p a).length ≤ a * (p * (p * p))
  | 0, _ => by simp [la]
  | a + 1, h => by
    have h1 := la_len p a (by omega)
    have h2 := ld_len p (a + 1) (la p a) h p (Nat.le_refl _)
    have e : (a + 1) * (p * (p * p)) = a * (p * (p * p)) + p * (p * p) := by rw [Nat.add_mul, Nat.one_mul]
    show (ld p (a + 1) (la p a) p).length ≤ _
    omega
def okp (p : Nat) : Prop := 1 ≤ p ∧ p ≤ 23
theorem ha_bd {p a : Nat} (h : okp p) (ha' : a ≤ p) : (ha p a).length ≤ 20000 := by
  have := ha_len p a ha'
  unfold okp at h
  have : a * (p * (p + 1)) ≤ 23 * (23 * 24) := Nat.mul_le_mul (by omega) (Nat.mul_le_mul (by omega) (by omega))
  omega
theorem la_bd {p a : Nat} (h : okp p) (ha' : a ≤ p) : (la p a).length ≤ 300000 := by
  have := la_len p a ha'
  unfold okp at h
  have : a * (p * (p * p)) ≤ 23 * (23 * (23 * 23)) := Nat.mul_le_mul (by omega) (Nat.mul_le_mul (by omega) (Nat.mul_le_mul (by omega) (by omega)))
  omega
def Hq (p : Nat) : List T4 := isort lt4 (ha p p)
theorem sort4 {S : Sto} {w : W} (l : List T4) (h : lstW S w = some (l.map fun q => W.v (enc4 q))) : sortF S [w] = some ((isort lt4 l).map fun q => W.v (enc4 q)) := by
  have e : sortF S [w] = if (l.map fun q => W.v (enc4 q)).all isI = true ∨ (l.map fun q => W.v (enc4 q)).all isT = true then some (isort ltW (l.map fun q => W.v (enc4 q))) else none := by
    show (match lstW S w with | some ws => _ | none => _) = _
    rw [h]
  rw [e, if_pos (.inr (by rw [List.all_map, List.all_eq_true]; intro q _; rfl)), isort_map (la := lt4) (fun q => W.v (enc4 q)) (fun a b => rfl)]
def sl (l : List T4) : Sto := [.lst (l.map fun q => W.v (enc4 q))]
theorem app4 {l : List T4} {q : T4} (h : l.length < LIM) : appF (sl l) (.ref 0) [.v (enc4 q)] = some (.v .non, sl (l ++ [q])) := by
  show (if (l.map fun q => W.v (enc4 q)).length < LIM then some (W.v .non, (sl l).set 0 (.lst ((l.map fun q => W.v (enc4 q)) ++ [.v (enc4 q)]))) else none) = _
  rw [if_pos (by simpa using h)]
  unfold sl
  simp
theorem isLs_sl (l : List T4) : isLs (sl l) (.ref 0) = true := rfl
theorem pm {p a b c : Nat} : ((p : Int) + b * c) % a = (((p + b * c) % a : Nat) : Int) := by push_cast; rfl
theorem pdv {p a b c : Nat} : ((p : Int) + b * c) / a = (((p + b * c) / a : Nat) : Int) := by push_cast; rfl
noncomputable def bd3 : XS := xifS (xtand (xtb (xop eqF (xop modF (xop addF (xvar 0) (xop mulF (xvar 3) (xvar 4))) (xvar 2)) (xc (.int 0)))) (xtb (xop gtF (xop fdivF (xop addF (xvar 0) (xop mulF (xvar 3) (xvar 4))) (xvar 2)) (xvar 4)))) (xexpr (xmeth isLs appF (xvar 1) (xcons (xtup true (xcons (xvar 2) (xcons (xvar 3) (xcons (xvar 4) (xcons (xop fdivF (xop addF (xvar 0) (xop mulF (xvar 3) (xvar 4))) (xvar 2)) xnil))))) xnil))) xskip
noncomputable def bd2 : XS := xfor (xirng1 (xop addF (xvar 0) (xc (.int 1)))) (xgname 4) bd3
noncomputable def bd1 : XS := xfor (xirng1 (xvar 2)) (xgname 3) bd2
theorem div_ok {a : Int} (h : 0 < a) (h2 : a ≤ 1000000) : divOk a = true := by
  unfold divOk
  rw [Bool.and_eq_true, decide_eq_true_eq, decide_eq_true_eq]
  refine ⟨h, ?_⟩
  have : a.natAbs < 2 ^ 20 := by omega
  have := (Nat.log2_lt (by omega)).mpr this
  omega
theorem hc_succ {p a b k : Nat} {l : List T4} : hc p a b l (k + 1) = if (p + b * k) % a = 0 ∧ k < (p + b * k) / a then hc p a b l k ++ [(a, b, k, (p + b * k) / a)] else hc p a b l k := rfl
theorem bd3_step {p a b k : Nat} {l : List T4} (hp' : 1 ≤ p ∧ p ≤ 23) (ha1 : 1 ≤ a) (hap : a ≤ p) (hb : b < a) (hk : k ≤ p) (hl : (hc p a b l k).length ≤ 40000) (x : Option W) :
    ((xgname 4 (.v (.int k)) [some (.v (.int p)), some (.ref 0), some (.v (.int a)), some (.v (.int b)), x] (sl (hc p a b l k))).bind fun q => bd3 q.1 q.2) = some (.nx, [some (.v (.int p)), some (.ref 0), some (.v (.int a)), some (.v (.int b)), some (.v (.int k))], sl (hc p a b l (k + 1))) := by
  have sb : small (b : Int) := by unfold small; omega
  have sk : small (k : Int) := by unfold small; omega
  have a0 : (0 : Int) < a := by omega
  have da : divOk (a : Int) = true := div_ok a0 (by omega)
  rw [hc_succ]
  have a0' : 0 < a := by omega
  obtain ⟨Z, hZ, eZ⟩ : ∃ Z : Int, ((p : Int) + b * k) / a = Z ∧ Z = (((p + b * k) / a : Nat) : Int) := ⟨_, rfl, pdv⟩
  obtain ⟨M, hM, eM⟩ : ∃ M : Int, ((p : Int) + b * k) % a = M ∧ M = (((p + b * k) % a : Nat) : Int) := ⟨_, rfl, pm⟩
  have e4 : D.tup true [.int (a : Int), .int (b : Int), .int (k : Int), .int Z] = enc4 (a, b, k, (p + b * k) / a) := by rw [eZ]; rfl
  have ap := app4 (l := hc p a b l k) (q := (a, b, k, (p + b * k) / a)) (by unfold LIM; omega)
  unfold bd3
  by_cases c1 : (p + b * k) % a = 0
  · have c1' : M = 0 := by omega
    by_cases c2 : k < (p + b * k) / a
    · rw [if_pos ⟨c1, c2⟩]
      have c2' : (k : Int) < Z := by omega
      simp [mul_ok sb sk, a0, a0', da, hM, hZ, c1', c2', isLs_sl, LIM, e4, ap]
    · rw [if_neg (fun z => c2 z.2)]
      have c2' : ¬ (k : Int) < Z := by omega
      simp [mul_ok sb sk, a0, a0', da, hM, hZ, c1', c2']
  · rw [if_neg (fun z => c1 z.1)]
    have c1' : ¬ M = 0 := by omega
    simp [mul_ok sb sk, a0, a0', da, hM, c1']
theorem bd3_loop {p a b : Nat} {l : List T4} (hp' : 1 ≤ p ∧ p ≤ 23) (ha1 : 1 ≤ a) (hap : a ≤ p) (hb : b < a) (hl : l.length ≤ 30000) (x : Option W) :
    ∃ ρ' S', forB free (xgname 4) bd3 (rngW 0 ((p : Int) + 1)) [some (.v (.int p)), some (.ref 0), some (.v (.int a)), some (.v (.int b)), x] (sl l) = some (.nx, ρ', S') ∧
      S' = sl (hc p a b l (p + 1)) ∧ ∃ x, ρ' = [some (.v (.int p)), some (.ref 0), some (.v (.int a)), some (.v (.int b)), x] := by
  have := for_rng (lo := 0) (hi := (p : Int) + 1) (g := xgname 4) (b := bd3) (fun i ρ S => S = sl (hc p a b l i.toNat) ∧ ∃ x, ρ = [some (.v (.int p)), some (.ref 0), some (.v (.int a)), some (.v (.int b)), x]) (by omega) ?_ (ρ := [some (.v (.int p)), some (.ref 0), some (.v (.int a)), some (.v (.int b)), x]) (S := sl l) ⟨rfl, x, rfl⟩
  · obtain ⟨ρ', S', h1, h2, z, h3⟩ := this
    rw [show ((p : Int) + 1).toNat = p + 1 by omega] at h2
    exact ⟨ρ', S', h1, h2, z, h3⟩
  rintro i ρ S i0 i1 ⟨rfl, x, rfl⟩
  obtain ⟨k, rfl⟩ := Int.eq_ofNat_of_zero_le i0
  rw [show ((k : Nat) : Int).toNat = k by omega, show (((k : Nat) : Int) + 1).toNat = k + 1 by omega]
  have len := hc_len p a b l k
  exact ⟨.nx, _, _, bd3_step hp' ha1 hap hb (by omega) (by omega) x, .inl rfl, rfl, _, rfl⟩
theorem hb_succ {p a b : Nat} {l : List T4} : hb p a l (b + 1) = hc p a b (hb p a l b) (p + 1) := rfl
theorem ha_succ {p a : Nat} : ha p (a + 1) = hb p (a + 1) (ha p a) (a + 1) := rfl
theorem rp_ok {p : Nat} (hp' : 1 ≤ p ∧ p ≤ 23) : rngOk 0 ((p : Int) + 1) = true := by rw [rngOk_iff]; unfold BIG; omega
theorem bd2_loop {p a : Nat} {l : List T4} (hp' : 1 ≤ p ∧ p ≤ 23) (ha1 : 1 ≤ a) (hap : a ≤ p) (hl : l.length ≤ 20000) (x y : Option W) :
    ∃ ρ' S', forB free (xgname 3) bd2 (rngW 0 (a : Int)) [some (.v (.int p)), some (.ref 0), some (.v (.int a)), x, y] (sl l) = some (.nx, ρ', S') ∧
      S' = sl (hb p a l a) ∧ ∃ x y, ρ' = [some (.v (.int p)), some (.ref 0), some (.v (.int a)), x, y] := by
  have := for_rng (lo := 0) (hi := (a : Int)) (g := xgname 3) (b := bd2) (fun i ρ S => S = sl (hb p a l i.toNat) ∧ ∃ x y, ρ = [some (.v (.int p)), some (.ref 0), some (.v (.int a)), x, y]) (by omega) ?_ (ρ := [some (.v (.int p)), some (.ref 0), some (.v (.int a)), x, y]) (S := sl l) ⟨rfl, x, y, rfl⟩
  · obtain ⟨ρ', S', h1, h2, z, h3⟩ := this
    rw [show ((a : Nat) : Int).toNat = a by omega] at h2
    exact ⟨ρ', S', h1, h2, z, h3⟩
  rintro i ρ S i0 i1 ⟨rfl, x, y, rfl⟩
  obtain ⟨b, rfl⟩ := Int.eq_ofNat_of_zero_le i0
  rw [show ((b : Nat) : Int).toNat = b by omega, show (((b : Nat) : Int) + 1).toNat = b + 1 by omega]
  rw [hb_succ]
  have len := hb_len p a l b
  have l2 : b * (p + 1) ≤ 23 * 24 := Nat.mul_le_mul (by omega) (by omega)
  obtain ⟨ρ', S', h1, rfl, z, rfl⟩ := bd3_loop (l := hb p a l b) hp' ha1 hap (show b < a by omega) (by omega) y
  refine ⟨.nx, [some (.v (.int p)), some (.ref 0), some (.v (.int a)), some (.v (.int b)), z], sl (hc p a b (hb p a l b) (p + 1)), ?_, .inl rfl, rfl, _, _, rfl⟩
  unfold bd2
  simp [rp_ok hp', h1]
theorem bd1_loop {p : Nat} (hp : okp p) : ∃ ρ' S', forB free (xgname 2) bd1 (rngW 1 ((p : Int) + 1)) [some (.v (.int p)), some (.ref 0), none, none, none] (sl []) = some (.nx, ρ', S') ∧
      S' = sl (ha p p) ∧ ∃ w x y, ρ' = [some (.v (.int p)), some (.ref 0), w, x, y] := by
  have hp' := hp
  unfold okp at hp'
  have := for_rng (lo := 1) (hi := (p : Int) + 1) (g := xgname 2) (b := bd1) (fun i ρ S => S = sl (ha p (i - 1).toNat) ∧ ∃ w x y, ρ = [some (.v (.int p)), some (.ref 0), w, x, y]) (by omega) ?_ (ρ := [some (.v (.int p)), some (.ref 0), none, none, none]) (S := sl []) ⟨rfl, none, none, none, rfl⟩
  · obtain ⟨ρ', S', h1, h2, h3⟩ := this
    rw [show ((p : Int) + 1 - 1).toNat = p by omega] at h2
    exact ⟨ρ', S', h1, h2, h3⟩
  rintro i ρ S i0 i1 ⟨rfl, w, x, y, rfl⟩
  obtain ⟨a, rfl⟩ : ∃ a : Nat, i = ((a + 1 : Nat) : Int) := ⟨(i - 1).toNat, by omega⟩
  rw [show (((a + 1 : Nat) : Int) - 1).toNat = a by omega, show (((a + 1 : Nat) : Int) + 1 - 1).toNat = a + 1 by omega]
  rw [ha_succ]
  obtain ⟨ρ', S', h1, rfl, x', y', rfl⟩ := bd2_loop (p := p) (a := a + 1) (l := ha p a) hp' (by omega) (by omega) (ha_bd hp (by omega)) x y
  have ra : rngOk 0 ((a + 1 : Nat) : Int) = true := by rw [rngOk_iff]; unfold BIG; omega
  refine ⟨.nx, [some (.v (.int p)), some (.ref 0), some (.v (.int ((a + 1 : Nat) : Int))), x', y'], sl (hb p (a + 1) (ha p a) (a + 1)), ?_, .inl rfl, rfl, _, _, _, rfl⟩
  unfold bd1
  generalize hA : ((a + 1 : Nat) : Int) = A at ra h1 ⊢
  simp [ra, h1]
theorem b_heil_eq : b_heilbronn = xseq (xasg 1 (xcel (xlst xnil))) (xseq (xfor (xirng2 (xc (.int 1)) (xop addF (xvar 0) (xc (.int 1)))) (xgname 2) bd1) (xret (xval (xcallL sortF (xcons (xvar 1) xnil))))) := rfl
theorem run_heil {p : Nat} (hp : okp p) : runP f_heilbronn [.int (p : Int)] = some (.lst ((Hq p).map enc4)) := by
  unfold runP f_heilbronn defn
  rw [b_heil_eq]
  have hp' := hp
  unfold okp at hp'
  have rp1 : rngOk 1 ((p : Int) + 1) = true := by rw [rngOk_iff]; unfold BIG; omega
  obtain ⟨ρ', S', h1, rfl, w, x, y, rfl⟩ := bd1_loop hp
  have hs : sortF (sl (ha p p)) [.ref 0] = some ((Hq p).map fun q => W.v (enc4 q)) := sort4 _ rfl
  have es : sl [] = [C.lst []] := rfl
  rw [es] at h1
  simp [rp1, h1, hs, LIM]
end Q58
namespace Q58
open PySem PySem.Spec PyProof.Rows L2 Fy
/-! ## the law's list of matrices -/
noncomputable def ce : XA := xlc (xirng1 (xvar 3)) [5] (xgname 5) (xtb (xop eqF (xop subF (xop mulF (xvar 2) (xvar 3)) (xop mulF (xvar 4) (xvar 5))) (xvar 0))) (xtup true (xcons (xvar 2) (xcons (xvar 4) (xcons (xvar 5) (xcons (xvar 3) xnil)))))
noncomputable def be3 : XS := xasg 1 (xop addF (xvar 1) (xval ce))
noncomputable def be2 : XS := xfor (xirng1 (xvar 2)) (xgname 4) be3
noncomputable def be1 : XS := xfor (xirng2 (xc (.int 1)) (xop addF (xvar 0) (xc (.int 1)))) (xgname 3) be2
theorem b_law_heil_eq : b__law_heilbronn = xseq (xasg 1 (xval (xlst xnil))) (xseq (xfor (xirng2 (xc (.int 1)) (xop addF (xvar 0) (xc (.int 1)))) (xgname 2) be1) (xret (xval (xcallL sortF (xcons (xvar 1) xnil))))) := rfl
theorem lb_succ {p a d b : Nat} {l : List T4} : lb p a d l (b + 1) = lb p a d l b ++ lcs p a d b := rfl
theorem ld_succ {p a d : Nat} {l : List T4} : ld p a l (d + 1) = lb p a (d + 1) (ld p a l d) a := rfl
theorem la_succ {p a : Nat} : la p (a + 1) = ld p (a + 1) (la p a) p := rfl
def rv (p : Nat) (l : List T4) (a d b : Option W) : Rho := [some (.v (.int p)), some (.v (.lst (l.map enc4))), a, d, b, none]
theorem ce_run {p a d b : Nat} (l : List T4) (hp' : 1 ≤ p ∧ p ≤ 23) (hap : a ≤ p) (hdp : d ≤ p) (hb : b < a) : ce (rv p l (some (.v (.int a))) (some (.v (.int d))) (some (.v (.int b)))) [] = some ((lcs p a d b).map fun q => W.v (enc4 q), []) := by
  have e : ((lcs p a d b).map fun q => W.v (enc4 q)) = (rngW 0 (d : Int)).filterMap fun w => (intOf w).bind fun c => if (a : Int) * d - b * c = p then some (W.v (.tup true [.int a, .int b, .int c, .int d])) else none := by
    rw [rng0, List.filterMap_map, show ((d : Nat) : Int).toNat = d by omega, List.filterMap_map]
    unfold lcs
    induction (List.range d) with
    | nil => rfl
    | cons c l ih =>
      rw [List.filterMap_cons, List.filter_cons]
      have key : ((a : Int) * d - b * c = p) ↔ a * d = p + b * c := by
        constructor
        · intro h
          have : (a : Int) * d = p + b * c := by omega
          exact_mod_cast this
        · intro h
          have : (a : Int) * d = p + b * c := by exact_mod_cast h
          omega
      by_cases h : a * d = p + b * c
      · have e1 : ((((fun w => (intOf w).bind fun c => if (a : Int) * d - b * c = p then some (W.v (.tup true [.int a, .int b, .int c, .int d])) else none) ∘ fun i => W.v (D.int i)) ∘ fun i : Nat => (i : Int)) c) = some (W.v (enc4 (a, b, c, d))) := by
          show (if (a : Int) * d - b * c = p then some (W.v (.tup true [.int a, .int b, .int c, .int d])) else none) = _
          rw [if_pos (key.mpr h)]; rfl
        rw [if_pos (by simpa using h), List.map_cons, List.map_cons, ih, e1]
      · have e1 : ((((fun w => (intOf w).bind fun c => if (a : Int) * d - b * c = p then some (W.v (.tup true [.int a, .int b, .int c, .int d])) else none) ∘ fun i => W.v (D.int i)) ∘ fun i : Nat => (i : Int)) c) = none := by
          show (if (a : Int) * d - b * c = p then some (W.v (.tup true [.int a, .int b, .int c, .int d])) else none) = _
          rw [if_neg (fun z => h (key.mp z))]
        rw [if_neg (by simpa using h), ih, e1]
  rw [e]
  have sa : small (a : Int) := by unfold small; omega
  have sd : small (d : Int) := by unfold small; omega
  have sb : small (b : Int) := by unfold small; omega
  have rd : rngOk 0 (d : Int) = true := by rw [rngOk_iff]; unfold BIG; omega
  unfold ce rv
  refine xlc_pure (ok := free) (S0 := []) (by simp [rd]) (by rw [rngW_length]; unfold LIM; omega) trivial _ fun w hw => ?_
  obtain ⟨c, e, h1, h2⟩ := rngW_mem hw
  subst e
  have sc : small c := by unfold small; omega
  by_cases h : (a : Int) * d - b * c = p
  · simp [ev_turn, wipeR, mul_ok sa sd, mul_ok sb sc, h, LIM]
  · simp [ev_turn, wipeR, mul_ok sa sd, mul_ok sb sc, h]
theorem add_lst {S : Sto} {l m : List T4} (h : l.length + m.length ≤ LIM) : addF S (.v (.lst (l.map enc4))) (.v (.lst (m.map enc4))) = some (.v (.lst ((l ++ m).map enc4))) := by
  show (if ((l.map enc4).map W.v).length + ((m.map enc4).map W.v).length ≤ LIM then (toDs ((l.map enc4).map W.v ++ (m.map enc4).map W.v)).map fun ds => W.v (.lst ds) else none) = _
  rw [if_pos (by simpa using h), ← List.map_append, toDs_map, ← List.map_append]; rfl
theorem be3_loop {p a d : Nat} {l : List T4} (hp' : 1 ≤ p ∧ p ≤ 23) (hap : a ≤ p) (hdp : d ≤ p) (hl : l.length ≤ 400000) (b : Option W) :
    ∃ ρ' S', forB free (xgname 4) be3 (rngW 0 (a : Int)) (rv p l (some (.v (.int a))) (some (.v (.int d))) b) [] = some (.nx, ρ', S') ∧ S' = [] ∧ ∃ b, ρ' = rv p (lb p a d l a) (some (.v (.int a))) (some (.v (.int d))) b := by
  have := for_rng (lo := 0) (hi := (a : Int)) (g := xgname 4) (b := be3) (fun i ρ S => S = [] ∧ ∃ b, ρ = rv p (lb p a d l i.toNat) (some (.v (.int a))) (some (.v (.int d))) b) (by omega) ?_ (ρ := rv p l (some (.v (.int a))) (some (.v (.int d))) b) (S := []) ⟨rfl, b, rfl⟩
  · obtain ⟨ρ', S', h1, h2, z, h3⟩ := this
    rw [show ((a : Nat) : Int).toNat = a by omega] at h3
    exact ⟨ρ', S', h1, h2, z, h3⟩
  rintro i ρ S i0 i1 ⟨rfl, b, rfl⟩
  obtain ⟨k, rfl⟩ := Int.eq_ofNat_of_zero_le i0
  rw [show ((k : Nat) : Int).toNat = k by omega, show (((k : Nat) : Int) + 1).toNat = k + 1 by omega]
  rw [lb_succ]
  have len := lb_len p a d l k
  have l2 : k * d ≤ 23 * 23 := Nat.mul_le_mul (by omega) (by omega)
  have l3 : (lcs p a d k).length ≤ d := by
    unfold lcs
    rw [List.length_map]
    refine Nat.le_trans (List.length_filter_le _ _) ?_
    simp
  have hce := ce_run (p := p) (a := a) (d := d) (b := k) (lb p a d l k) hp' hap hdp (by omega)
  have had := add_lst (S := []) (l := lb p a d l k) (m := lcs p a d k) (by unfold LIM; omega)
  refine ⟨.nx, rv p (lb p a d l k ++ lcs p a d k) (some (.v (.int a))) (some (.v (.int d))) (some (.v (.int k))), [], ?_, .inl rfl, rfl, _, rfl⟩
  unfold rv at hce ⊢
  unfold be3
  simp [hce, had]
theorem be2_loop {p a : Nat} {l : List T4} (hp' : 1 ≤ p ∧ p ≤ 23) (hap : a ≤ p) (hl : l.length ≤ 300000) (d b : Option W) :
    ∃ ρ' S', forB free (xgname 3) be2 (rngW 1 ((p : Int) + 1)) (rv p l (some (.v (.int a))) d b) [] = some (.nx, ρ', S') ∧ S' = [] ∧ ∃ d b, ρ' = rv p (ld p a l p) (some (.v (.int a))) d b := by
  have := for_rng (lo := 1) (hi := (p : Int) + 1) (g := xgname 3) (b := be2) (fun i ρ S => S = [] ∧ ∃ d b, ρ = rv p (ld p a l (i - 1).toNat) (some (.v (.int a))) d b) (by omega) ?_ (ρ := rv p l (some (.v (.int a))) d b) (S := []) ⟨rfl, d, b, rfl⟩
  · obtain ⟨ρ', S', h1, h2, y, z, h3⟩ := this
    rw [show ((p : Int) + 1 - 1).toNat = p by omega] at h3
    exact ⟨ρ', S', h1, h2, y, z, h3⟩
  rintro i ρ S i0 i1 ⟨rfl, d, b, rfl⟩
  obtain ⟨k, rfl⟩ : ∃ k : Nat, i = ((k + 1 : Nat) : Int) := ⟨(i - 1).toNat, by omega⟩
  rw [show (((k + 1 : Nat) : Int) - 1).toNat = k by omega, show (((k + 1 : Nat) : Int) + 1 - 1).toNat = k + 1 by omega, ld_succ]
  have len := ld_len p a l hap k (by omega)
  have l2 : k * (p * p) ≤ 23 * (23 * 23) := Nat.mul_le_mul (by omega) (Nat.mul_le_mul (by omega) (by omega))
  obtain ⟨ρ', S', h1, rfl, b', rfl⟩ := be3_loop (p := p) (a := a) (d := k + 1) (l := ld p a l k) hp' hap (by omega) (by omega) b
  refine ⟨.nx, rv p (lb p a (k + 1) (ld p a l k) a) (some (.v (.int a))) (some (.v (.int ((k + 1 : Nat) : Int)))) b', [], ?_, .inl rfl, rfl, _, _, rfl⟩
  have ra : rngOk 0 (a : Int) = true := by rw [rngOk_iff]; unfold BIG; omega
  generalize ((k + 1 : Nat) : Int) = A at h1 ⊢
  unfold rv at h1 ⊢
  unfold be2
  simp [ra, h1]
theorem rp1_ok {p : Nat} (hp' : 1 ≤ p ∧ p ≤ 23) : rngOk 1 ((p : Int) + 1) = true := by rw [rngOk_iff]; unfold BIG; omega
theorem be1_loop {p : Nat} (hp : okp p) :
    ∃ ρ' S', forB free (xgname 2) be1 (rngW 1 ((p : Int) + 1)) (rv p [] none none none) [] = some (.nx, ρ', S') ∧ S' = [] ∧ ∃ a d b, ρ' = rv p (la p p) a d b := by
  have hp' := hp
  unfold okp at hp'
  have := for_rng (lo := 1) (hi := (p : Int) + 1) (g := xgname 2) (b := be1) (fun i ρ S => S = [] ∧ ∃ a d b, ρ = rv p (la p (i - 1).toNat) a d b) (by omega) ?_ (ρ := rv p [] none none none) (S := []) ⟨rfl, none, none, none, rfl⟩
  · obtain ⟨ρ', S', h1, h2, x, y, z, h3⟩ := this
    rw [show ((p : Int) + 1 - 1).toNat = p by omega] at h3
    exact ⟨ρ', S', h1, h2, x, y, z, h3⟩
  rintro i ρ S i0 i1 ⟨rfl, a, d, b, rfl⟩
  obtain ⟨k, rfl⟩ : ∃ k : Nat, i = ((k + 1 : Nat) : Int) := ⟨(i - 1).toNat, by omega⟩
  rw [show (((k + 1 : Nat) : Int) - 1).toNat = k by omega, show (((k + 1 : Nat) : Int) + 1 - 1).toNat = k + 1 by omega, la_succ]
  obtain ⟨ρ', S', h1, rfl, d', b', rfl⟩ := be2_loop (p := p) (a := k + 1) (l := la p k) hp' (by omega) (la_bd hp (by omega)) d b
  refine ⟨.nx, rv p (ld p (k + 1) (la p k) p) (some (.v (.int ((k + 1 : Nat) : Int)))) d' b', [], ?_, .inl rfl, rfl, _, _, _, rfl⟩
  generalize ((k + 1 : Nat) : Int) = A at h1 ⊢
  unfold rv at h1 ⊢
  unfold be1
  simp [rp1_ok hp', h1]
theorem run_law_heil {p : Nat} (hp : okp p) : runP f__law_heilbronn [.int (p : Int)] = some (.lst ((isort lt4 (la p p)).map enc4)) := by
  unfold runP f__law_heilbronn defn
  rw [b_law_heil_eq]
  have hp' := hp
  unfold okp at hp'
  obtain ⟨ρ', S', h1, rfl, a, d, b, rfl⟩ := be1_loop hp
  have hs : sortF [] [.v (.lst ((la p p).map enc4))] = some ((isort lt4 (la p p)).map fun q => W.v (enc4 q)) := sort4 _ (by show some (((la p p).map enc4).map W.v) = _; rw [List.map_map]; rfl)
  unfold rv at h1
  simp at h1
  simp [rp1_ok hp', h1, hs, LIM]
/-! the two lists hold the same -/
def okq (p a b c : Nat) : Prop := (p + b * c) % a = 0 ∧ c < (p + b * c) / a
theorem mem_hc {p a b : Nat} {l : List T4} {q : T4} : ∀ {k : Nat}, q ∈ hc p a b l k ↔ q ∈ l ∨ ∃ c, c < k ∧ okq p a b c ∧ q = (a, b, c, (p + b * c) / a)
  | 0 => by
    show q ∈ l ↔ _
    constructor
    · exact .inl
    · rintro (h | ⟨c, h, _⟩)
      · exact h
      · omega
  | k + 1 => by
    rw [hc_succ]
    by_cases c1 : (p + b * k) % a = 0 ∧ k < (p + b * k) / a
    · rw [if_pos c1, List.mem_append, mem_hc]
      constructor
      · rintro ((h | ⟨c, h1, h2⟩) | h)
        · exact .inl h
        · exact .inr ⟨c, by omega, h2⟩
        · exact .inr ⟨k, by omega, c1, by simpa using h⟩
      · rintro (h | ⟨c, h1, h2, h3⟩)
        · exact .inl (.inl h)
        · by_cases e : c = k
          · subst e; exact .inr (by simpa using h3)
          · exact .inl (.inr ⟨c, by omega, h2, h3⟩)
    · rw [if_neg c1, mem_hc]
      constructor
      · rintro (h | ⟨c, h1, h2⟩)
        · exact .inl h
        · exact .inr ⟨c, by omega, h2⟩
      · rintro (h | ⟨c, h1, h2, h3⟩)
        · exact .inl h
        · by_cases e : c = k
          · subst e; exact absurd h2 c1
          · exact .inr ⟨c, by omega, h2, h3⟩
theorem mem_hb {p a : Nat} {l : List T4} {q : T4} : ∀ {n : Nat}, q ∈ hb p a l n ↔ q ∈ l ∨ ∃ b c, b < n ∧ c < p + 1 ∧ okq p a b c ∧ q = (a, b, c, (p + b * c) / a)
  | 0 => by
    show q ∈ l ↔ _
    constructor
    · exact .inl
    · rintro (h | ⟨b, c, h, _⟩)
      · exact h
      · omega
  | n + 1 => by
    rw [hb_succ, mem_hc, mem_hb]
    constructor
    · rintro ((h | ⟨b, c, h1, h2⟩) | ⟨c, h1, h2⟩)
      · exact .inl h
      · exact .inr ⟨b, c, by omega, h2⟩
      · exact .inr ⟨n, c, by omega, h1, h2⟩
    · rintro (h | ⟨b, c, h1, h2, h3⟩)
      · exact .inl (.inl h)
      · by_cases e : b = n
        · subst e; exact .inr ⟨c, h2, h3⟩
        · exact .inl (.inr ⟨b, c, by omega, h2, h3⟩)
theorem mem_ha {p : Nat} {q : T4} : ∀ {n : Nat}, q ∈ ha p n ↔ ∃ a b c, 1 ≤ a ∧ a ≤ n ∧ b < a ∧ c < p + 1 ∧ okq p a b c ∧ q = (a, b, c, (p + b * c) / a)
  | 0 => by
    show q ∈ [] ↔ _
    constructor
    · intro h; cases h
    · rintro ⟨a, b, c, h1, h2, _⟩; omega
  | n + 1 => by
    rw [ha_succ, mem_hb, mem_ha]
    constructor
    · rintro (⟨a, b, c, h1, h2, h3⟩ | ⟨b, c, h1, h2, h3⟩)
      · exact ⟨a, b, c, h1, by omega, h3⟩
      · exact ⟨n + 1, b, c, by omega, Nat.le_refl _, h1, h2, h3⟩
    · rintro ⟨a, b, c, h1, h2, h3, h4⟩
      by_cases e : a = n + 1
      · subst e; exact .inr ⟨b, c, h3, h4⟩
      · exact .inl ⟨a, b, c, h1, by omega, h3, h4⟩
theorem mem_lcs {p a d b : Nat} {q : T4} : q ∈ lcs p a d b ↔ ∃ c, c < d ∧ a * d = p + b * c ∧ q = (a, b, c, d) := by
  unfold lcs
  rw [List.mem_map]
  constructor
  · rintro ⟨c, h, e⟩
    obtain ⟨h1, h2⟩ := List.mem_filter.mp h
    exact ⟨c, List.mem_range.mp h1, by simpa using h2, e.symm⟩
  · rintro ⟨c, h1, h2, e⟩
    exact ⟨c, List.mem_filter.mpr ⟨List.mem_range.mpr h1, by simpa using h2⟩, e.symm⟩
theorem mem_lb {p a d : Nat} {l : List T4} {q : T4} : ∀ {n : Nat}, q ∈ lb p a d l n ↔ q ∈ l ∨ ∃ b c, b < n ∧ c < d ∧ a * d = p + b * c ∧ q = (a, b, c, d)
  | 0 => by
    show q ∈ l ↔ _
    constructor
    · exact .inl
    · rintro (h | ⟨b, c, h, _⟩)
      · exact h
      · omega
  | n + 1 => by
    rw [lb_succ, List.mem_append, mem_lcs, mem_lb]
    constructor
    · rintro ((h | ⟨b, c, h1, h2⟩) | ⟨c, h1, h2⟩)
      · exact .inl h
      · exact .inr ⟨b, c, by omega, h2⟩
      · exact .inr ⟨n, c, by omega, h1, h2⟩
    · rintro (h | ⟨b, c, h1, h2, h3⟩)
      · exact .inl (.inl h)
      · by_cases e : b = n
        · subst e; exact .inr ⟨c, h2, h3⟩
        · exact .inl (.inr ⟨b, c, by omega, h2, h3⟩)
theorem mem_ld {p a : Nat} {l : List T4} {q : T4} : ∀ {n : Nat}, q ∈ ld p a l n ↔ q ∈ l ∨ ∃ d b c, 1 ≤ d ∧ d ≤ n ∧ b < a ∧ c < d ∧ a * d = p + b * c ∧ q = (a, b, c, d)
  | 0 => by
    show q ∈ l ↔ _
    constructor
    · exact .inl
    · rintro (h | ⟨d, b, c, h, h2, _⟩)
      · exact h
      · omega
  | n + 1 => by
    rw [ld_succ, mem_lb, mem_ld]
    constructor
    · rintro ((h | ⟨d, b, c, h1, h2, h3⟩) | ⟨b, c, h1, h2, h3⟩)
      · exact .inl h
      · exact .inr ⟨d, b, c, h1, by omega, h3⟩
      · exact .inr ⟨n + 1, b, c, by omega, Nat.le_refl _, h1, h2, h3⟩
    · rintro (h | ⟨d, b, c, h1, h2, h3, h4⟩)
      · exact .inl (.inl h)
      · by_cases e : d = n + 1
        · subst e; exact .inr ⟨b, c, h3, h4⟩
        · exact .inl (.inr ⟨d, b, c, h1, by omega, h3, h4⟩)
theorem mem_la {p : Nat} {q : T4} : ∀ {n : Nat}, q ∈ la p n ↔ ∃ a d b c, 1 ≤ a ∧ a ≤ n ∧ 1 ≤ d ∧ d ≤ p ∧ b < a ∧ c < d ∧ a * d = p + b * c ∧ q = (a, b, c, d)
  | 0 => by
    show q ∈ [] ↔ _
    constructor
    · intro h; cases h
    · rintro ⟨a, d, b, c, h1, h2, _⟩; omega
  | n + 1 => by
    rw [la_succ, mem_ld, mem_la]
    constructor
    · rintro (⟨a, d, b, c, h1, h2, h3⟩ | ⟨d, b, c, h3⟩)
      · exact ⟨a, d, b, c, h1, by omega, h3⟩
      · exact ⟨n + 1, d, b, c, by omega, Nat.le_refl _, h3⟩
    · rintro ⟨a, d, b, c, h1, h2, h3⟩
      by_cases e : a = n + 1
      · subst e; exact .inr ⟨d, b, c, h3⟩
      · exact .inl ⟨a, d, b, c, h1, by omega, h3⟩
theorem nd_app {l m : List T4} (h1 : l.Nodup) (h2 : m.Nodup) (h : ∀ q, q ∈ l → q ∈ m → False) : (l ++ m).Nodup := List.nodup_append.mpr ⟨h1, h2, fun a ha b hb e => h a ha (by rw [e]; exact hb)⟩
theorem nd_hc {p a b : Nat} {l : List T4} (hl : l.Nodup) (h : ∀ q ∈ l, ¬ (q.1 = a ∧ q.2.1 = b)) : ∀ k, (hc p a b l k).Nodup
  | 0 => hl
  | k + 1 => by
    rw [hc_succ]
    split
    · refine nd_app (nd_hc hl h k) (by simp) fun q h1 h2 => ?_
      have e : q = (a, b, k, (p + b * k) / a) := by simpa using h2
      rcases mem_hc.mp h1 with z | ⟨c, z1, _, z2⟩
      · exact h q z (by rw [e]; exact ⟨rfl, rfl⟩)
      · rw [e] at z2
        injection z2 with _ z2
        injection z2 with _ z2
        injection z2 with z2
        omega
    · exact nd_hc hl h k
theorem nd_hb {p a : Nat} {l : List T4} (hl : l.Nodup) (h : ∀ q ∈ l, q.1 ≠ a) : ∀ n, (hb p a l n).Nodup
  | 0 => hl
  | n + 1 => by
    rw [hb_succ]
    refine nd_hc (nd_hb hl h n) (fun q hq z => ?_) _
    rcases mem_hb.mp hq with y | ⟨b, c, y1, _, _, y2⟩
    · exact h q y z.1
    · rw [y2] at z
      have : b = n := z.2
      omega
theorem nd_ha {p : Nat} : ∀ n, (ha p n).Nodup
  | 0 => List.nodup_nil
  | n + 1 => by
    rw [ha_succ]
    refine nd_hb (nd_ha n) (fun q hq z => ?_) _
    obtain ⟨a, b, c, h1, h2, _, _, _, e⟩ := mem_ha.mp hq
    rw [e] at z
    have : a = n + 1 := z
    omega
theorem nd_lcs {p a d b : Nat} : (lcs p a d b).Nodup := by
  unfold lcs
  refine List.Pairwise.map _ (fun x y (h : x ≠ y) e => ?_) (List.Pairwise.filter _ List.nodup_range)
  injection e with _ e
  injection e with _ e
  injection e with e
  exact h e
theorem nd_lb {p a d : Nat} {l : List T4} (hl : l.Nodup) (h : ∀ q ∈ l, ¬ (q.1 = a ∧ q.2.2.2 = d)) : ∀ n, (lb p a d l n).Nodup
  | 0 => hl
  | n + 1 => by
    rw [lb_succ]
    refine nd_app (nd_lb hl h n) nd_lcs fun q h1 h2 => ?_
    obtain ⟨c, _, _, e⟩ := mem_lcs.mp h2
    rcases mem_lb.mp h1 with z | ⟨b, c', z1, _, _, z2⟩
    · exact h q z (by rw [e]; exact ⟨rfl, rfl⟩)
    · rw [e] at z2
      injection z2 with _ z2
      injection z2 with z2
      omega
theorem nd_ld {p a : Nat} {l : List T4} (hl : l.Nodup) (h : ∀ q ∈ l, q.1 ≠ a) : ∀ n, (ld p a l n).Nodup
  | 0 => hl
  | n + 1 => by
    rw [ld_succ]
    refine nd_lb (nd_ld hl h n) (fun q hq z => ?_) _
    rcases mem_ld.mp hq with y | ⟨d, b, c, y1, y2, _, _, _, y3⟩
    · exact h q y z.1
    · rw [y3] at z
      have : d = n + 1 := z.2
      omega
theorem nd_la {p : Nat} : ∀ n, (la p n).Nodup
  | 0 => List.nodup_nil
  | n + 1 => by
    rw [la_succ]
    refine nd_ld (nd_la n) (fun q hq z => ?_) _
    obtain ⟨a, d, b, c, h1, h2, _, _, _, _, _, e⟩ := mem_la.mp hq
    rw [e] at z
    have : a = n + 1 := z
    omega
theorem same_mem {p : Nat} (q : T4) : q ∈ ha p p ↔ q ∈ la p p := by
  rw [mem_ha, mem_la]
  constructor
  · rintro ⟨a, b, c, h1, h2, h3, h4, ⟨h5, h6⟩, e⟩
    have ed : a * ((p + b * c) / a) = p + b * c := by
      have := Nat.div_add_mod (p + b * c) a
      omega
    generalize (p + b * c) / a = d at ed h6 e
    refine ⟨a, d, b, c, h1, h2, by omega, ?_, h3, h6, ed, e⟩
    obtain ⟨a', rfl⟩ : ∃ a', a = a' + 1 := ⟨a - 1, by omega⟩
    obtain ⟨d', rfl⟩ : ∃ d', d = d' + 1 := ⟨d - 1, by omega⟩
    have k : b * c ≤ a' * d' := Nat.mul_le_mul (by omega) (by omega)
    have x : (a' + 1) * (d' + 1) = a' * d' + a' + d' + 1 := by rw [Nat.add_mul, Nat.mul_add, Nat.one_mul, Nat.mul_one]; omega
    omega
  · rintro ⟨a, d, b, c, h1, h2, h3, h4, h5, h6, ed, e⟩
    have dv : (p + b * c) / a = d := by rw [← ed, Nat.mul_div_cancel_left _ (by omega)]
    have md : (p + b * c) % a = 0 := by rw [← ed, Nat.mul_mod_right]
    exact ⟨a, b, c, h1, h2, h5, by omega, ⟨md, by rw [dv]; exact h6⟩, by rw [dv]; exact e⟩
theorem lexLt_anti : ∀ x y : List Int, x.length = y.length → HT.lexLt x y = false → HT.lexLt y x = false → x = y
  | [], [], _, _, _ => rfl
  | [], _ :: _, h, _, _ => by simp at h
  | _ :: _, [], h, _, _ => by simp at h
  | x :: xs, y :: ys, h, h1, h2 => by
    rw [HT.lexLt_cons] at h1 h2
    by_cases e : x = y
    · subst e
      rw [if_pos rfl] at h1 h2
      rw [lexLt_anti xs ys (by simpa using h) h1 h2]
    · rw [if_neg e, decide_eq_false_iff_not] at h1
      rw [if_neg (Ne.symm e), decide_eq_false_iff_not] at h2
      omega
theorem isort_perm_eq {α : Type} {lt : α → α → Bool} (O : SrtO.Swo lt) (anti : ∀ x y, lt x y = false → lt y x = false → x = y) {l m : List α} (h : l.Perm m) : isort lt l = isort lt m := by
  have p : (isort lt l).Perm (isort lt m) := (isort_perm l).trans (h.trans (isort_perm m).symm)
  refine SrtO.stb_uniq O (isort_srt O l) (isort_srt O m) ⟨p, fun z => ?_⟩
  have all : ∀ k : List α, ∀ x ∈ k.filter (SrtO.eqv lt z), x = z := fun k x hx => by
    have := SrtO.eqv_iff.mp (List.mem_filter.mp hx).2
    exact (anti z x this.1 this.2).symm
  have rep : ∀ k : List α, k.filter (SrtO.eqv lt z) = List.replicate (k.filter (SrtO.eqv lt z)).length z := fun k => List.eq_replicate_iff.mpr ⟨rfl, all k⟩
  rw [rep (isort lt l), rep (isort lt m), (p.filter _).length_eq]
theorem swo_lt4 : SrtO.Swo lt4 := swo_lexK fun p : T4 => [(p.1 : Int), p.2.1, p.2.2.1, p.2.2.2]
theorem heil_same (p : Nat) : isort lt4 (la p p) = Hq p := by
  refine (isort_perm_eq swo_lt4 (fun x y h1 h2 => ?_) ((List.perm_ext_iff_of_nodup (nd_ha p) (nd_la p)).mpr same_mem)).symm
  have := lexLt_anti [(x.1 : Int), x.2.1, x.2.2.1, x.2.2.2] [(y.1 : Int), y.2.1, y.2.2.1, y.2.2.2] rfl h1 h2
  obtain ⟨a, b, c, d⟩ := x
  obtain ⟨a', b', c', d'⟩ := y
  simp only [List.cons.injEq, Int.natCast_inj, and_true] at this
  simp only [Prod.mk.injEq]
  omega
theorem Hq_bd {p : Nat} (hp : okp p) {q : T4} (h : q ∈ Hq p) : q.1 ≤ 1000 ∧ q.2.1 ≤ 1000 ∧ q.2.2.1 ≤ 1000 ∧ q.2.2.2 ≤ 1000 := by
  have h := (isort_perm _).mem_iff.mp h
  obtain ⟨a, d, b, c, h1, h2, h3, h4, h5, h6, _, e⟩ := mem_la.mp ((same_mem q).mp h)
  unfold okp at hp
  subst e
  exact ⟨by show a ≤ 1000; omega, by show b ≤ 1000; omega, by show c ≤ 1000; omega, by show d ≤ 1000; omega⟩
theorem Hq_len {p : Nat} (hp : okp p) : (Hq p).length ≤ 20000 := by
  unfold Hq
  rw [isort_length]
  exact ha_bd hp (Nat.le_refl _)
end Q58
namespace Q58
open PySem PySem.Spec PyProof.Rows L2 Fy
/-! ## the images -/
def idxP (l : List (Int × Int)) (p : Int × Int) : Int := match dget (numK l 0) (keyP p) with
  | some (.v (.int i)) => i
  | _ => 0
theorem dic_num {S : Sto} (l : List (Int × Int)) : dicT S (.v (numD l)) = some (numK l 0) := by
  show some ((l.map keyP).zip (((List.range l.length).map fun i : Nat => D.int (i : Int)).map W.v)) = _
  congr 1
  rw [List.map_map, List.range_eq_range']
  have gen : ∀ (l : List (Int × Int)) (k : Nat), (l.map keyP).zip ((List.range' k l.length).map (W.v ∘ fun i : Nat => D.int (i : Int))) = numK l k := by
    intro l
    induction l with
    | nil => intro k; rfl
    | cons p l ih =>
      intro k
      rw [List.length_cons, List.range'_succ, List.map_cons, List.map_cons, List.zip_cons_cons, ih]; rfl
  exact gen l 0
theorem look_num {S : Sto} {l : List (Int × Int)} {p : Int × Int} (h : p ∈ l) : ixF S (.v (numD l)) (.v (encP p)) = some (.v (.int (idxP l p))) := by
  obtain ⟨i, hi, _⟩ := dget_num 0 h
  have e : idxP l p = i := by unfold idxP; rw [hi]
  have d : dlook S (.v (numD l)) (.v (encP p)) = some (dget (numK l 0) (keyP p)) := by
    show (match dicT S (.v (numD l)) with | some kvs => (keyT (.v (encP p))).map (dget kvs) | none => none) = _
    rw [dic_num]; rfl
  show (dlook S (.v (numD l)) (.v (encP p))).join = _
  rw [d, hi, e]; rfl
/-- the numbers that the matrices lead to -/
def imgL (n u v : Int) : List T4 → List Int
  | [] => []
  | q :: l => (match symP n (u * q.1 + v * q.2.2.1) (u * q.2.1 + v * q.2.2.2) with
    | none => []
    | some p => [idxP (rowsP n) p]) ++ imgL n u v l
theorem imgL_len (n u v : Int) : ∀ l : List T4, (imgL n u v l).length ≤ l.length
  | [] => Nat.le_refl _
  | q :: l => by
    have := imgL_len n u v l
    unfold imgL
    cases symP n (u * q.1 + v * q.2.2.1) (u * q.2.1 + v * q.2.2.2) <;> simp <;> omega
theorem imgL_app (n u v : Int) : ∀ (l m : List T4), imgL n u v (l ++ m) = imgL n u v l ++ imgL n u v m
  | [], m => rfl
  | q :: l, m => by
    show _ ++ imgL n u v (l ++ m) = (_ ++ imgL n u v l) ++ imgL n u v m
    rw [imgL_app n u v l m, List.append_assoc]
def ltI (a b : Int) : Bool := HT.lexLt [a] [b]
def imgD (n u v : Int) (l : List T4) : D := .lst ((isort ltI (imgL n u v l)).map D.int)
def si (l : List Int) : Sto := [.lst (l.map fun i => W.v (.int i))]
theorem sortI (l : List Int) : sortF (si l) [.ref 0] = some ((isort ltI l).map fun i => W.v (.int i)) := by
  have e : sortF (si l) [.ref 0] = if (l.map fun i => W.v (.int i)).all isI = true ∨ (l.map fun i => W.v (.int i)).all isT = true then some (isort ltW (l.map fun i => W.v (.int i))) else none := rfl
  rw [e, if_pos (.inl (by rw [List.all_map, List.all_eq_true]; intro q _; rfl)), isort_map (la := ltI) (fun i => W.v (.int i)) (fun a b => rfl)]
theorem appI {l : List Int} {i : Int} (h : l.length < LIM) : appF (si l) (.ref 0) [.v (.int i)] = some (.v .non, si (l ++ [i])) := by
  show (if (l.map fun i => W.v (.int i)).length < LIM then some (W.v .non, (si l).set 0 (.lst ((l.map fun i => W.v (.int i)) ++ [.v (.int i)]))) else none) = _
  rw [if_pos (by simpa using h)]
  unfold si
  simp
theorem ls_si (l : List Int) : isLs (si l) (.ref 0) = true := rfl
/-- the images' turn, by whichever def -/
def bi (g : Fn) (a b c d e f k s t nn : Nat) : XS := xseq (xasg e (xcallP g (xcons (xvar nn) (xcons (xop addF (xop mulF (xvar s) (xvar a)) (xop mulF (xvar t) (xvar c))) (xcons (xop addF (xop mulF (xvar s) (xvar b)) (xop mulF (xvar t) (xvar d))) xnil))))) (xifS (xtb (xop notNF (xvar e) (xc .non))) (xexpr (xmeth isLs appF (xvar f) (xcons (xop ixF (xvar k) (xvar e)) xnil))) xskip)
theorem small_mul {u : Int} {a : Nat} (hu : 0 ≤ u ∧ u < 100) (ha : a ≤ 1000) : 0 ≤ u * a ∧ u * a ≤ 100000 := by
  have h1 : 0 ≤ u * (a : Int) := Int.mul_nonneg hu.1 (by omega)
  have h2 : u * (a : Int) ≤ 100 * 1000 := Int.mul_le_mul (by omega) (by omega) (by omega) (by omega)
  omega
theorem im_turn {n u v : Int} {q : T4} {g : Fn} {acc : List Int} (hn : okn n) (hg : ∀ c d, small c → small d → runP g [.int n, .int c, .int d] = some (encO (symP n c d))) (hu : 0 ≤ u ∧ u < 100) (hv : 0 ≤ v ∧ v < 100) (hq : q.1 ≤ 1000 ∧ q.2.1 ≤ 1000 ∧ q.2.2.1 ≤ 1000 ∧ q.2.2.2 ≤ 1000) (hl : acc.length < 100000) (w0 w1 w2 w3 w4 w5 w6 w7 w8 w9 : Option W) :
    ∃ r, ((xgtup 4 (xgcons (xgname 8) (xgcons (xgname 9) (xgcons (xgname 10) (xgcons (xgname 11) xgnil)))) (.v (enc4 q)) [some (.v (.int n)), w1, w2, some (.v (.lst ((rowsP n).map encP))), some (.v (numD (rowsP n))), some (.v (.int u)), some (.v (.int v)), some (.ref 0), w3, w4, w5, w6, w7, w8] (si acc)).bind fun z => (bi g 8 9 10 11 12 7 4 5 6 0) z.1 z.2) =
      some (.nx, [some (.v (.int n)), w1, w2, some (.v (.lst ((rowsP n).map encP))), some (.v (numD (rowsP n))), some (.v (.int u)), some (.v (.int v)), some (.ref 0), some (.v (.int q.1)), some (.v (.int q.2.1)), some (.v (.int q.2.2.1)), some (.v (.int q.2.2.2)), r, w8], si (acc ++ imgL n u v [q])) := by
  obtain ⟨a, b, c, d⟩ := q
  have m1 := small_mul hu hq.1
  have m2 := small_mul hv hq.2.2.1
  have m3 := small_mul hu hq.2.1
  have m4 := small_mul hv hq.2.2.2
  have su : small u := by unfold small; omega
  have sv : small v := by unfold small; omega
  have sa : small (a : Int) := by unfold small; have : a ≤ 1000 := hq.1; omega
  have sb : small (b : Int) := by unfold small; have : b ≤ 1000 := hq.2.1; omega
  have sc : small (c : Int) := by unfold small; have : c ≤ 1000 := hq.2.2.1; omega
  have sd : small (d : Int) := by unfold small; have : d ≤ 1000 := hq.2.2.2; omega
  have h1 : runP g [.int n, .int (u * a + v * c), .int (u * b + v * d)] = some (encO (symP n (u * a + v * c) (u * b + v * d))) := hg _ _ (by unfold small; dsimp at m1 m2; omega) (by unfold small; dsimp at m3 m4; omega)
  unfold bi enc4
  cases hs : symP n (u * a + v * c) (u * b + v * d) with
  | none =>
    rw [hs] at h1
    refine ⟨some (.v .non), ?_⟩
    have ei : imgL n u v [(a, b, c, d)] = [] := by unfold imgL; simp only [hs]; rfl
    rw [ei, List.append_nil]
    simp [mul_ok su sa, mul_ok sv sc, mul_ok su sb, mul_ok sv sd, h1, encO, Fy.isNon]
  | some p =>
    rw [hs] at h1
    refine ⟨some (.v (encP p)), ?_⟩
    have ei : imgL n u v [(a, b, c, d)] = [idxP (rowsP n) p] := by unfold imgL; simp only [hs]; rfl
    rw [ei]
    have lk := look_num (S := si acc) (sym_row hn hs)
    have ap := appI (l := acc) (i := idxP (rowsP n) p) (by unfold LIM; omega)
    simp [mul_ok su sa, mul_ok sv sc, mul_ok su sb, mul_ok sv sd, h1, encO, isNon_enc, lk, ap, ls_si]
theorem im_turn2 {n u v : Int} {q : T4} {g : Fn} {acc : List Int} (hn : okn n) (hg : ∀ c d, small c → small d → runP g [.int n, .int c, .int d] = some (encO (symP n c d))) (hu : 0 ≤ u ∧ u < 100) (hv : 0 ≤ v ∧ v < 100) (hq : q.1 ≤ 1000 ∧ q.2.1 ≤ 1000 ∧ q.2.2.1 ≤ 1000 ∧ q.2.2.2 ≤ 1000) (hl : acc.length < 100000) (w0 w1 w2 w3 w4 w5 w6 w7 w8 w9 : Option W) :
    ∃ r, ((xgtup 4 (xgcons (xgname 8) (xgcons (xgname 9) (xgcons (xgname 10) (xgcons (xgname 11) xgnil)))) (.v (enc4 q)) [some (.v (.lst ((rowsP n).map encP))), some (.v (numD (rowsP n))), some (.v (.int n)), w1, w2, some (.v (.int u)), some (.v (.int v)), some (.ref 0), w3, w4, w5, w6, w7] (si acc)).bind fun z => (bi g 8 9 10 11 12 7 1 5 6 2) z.1 z.2) =
      some (.nx, [some (.v (.lst ((rowsP n).map encP))), some (.v (numD (rowsP n))), some (.v (.int n)), w1, w2, some (.v (.int u)), some (.v (.int v)), some (.ref 0), some (.v (.int q.1)), some (.v (.int q.2.1)), some (.v (.int q.2.2.1)), some (.v (.int q.2.2.2)), r], si (acc ++ imgL n u v [q])) := by
  obtain ⟨a, b, c, d⟩ := q
  have m1 := small_mul hu hq.1
  have m2 := small_mul hv hq.2.2.1
  have m3 := small_mul hu hq.2.1
  have m4 := small_mul hv hq.2.2.2
  have su : small u := by unfold small; omega
  have sv : small v := by unfold small; omega
  have sa : small (a : Int) := by unfold small; have : a ≤ 1000 := hq.1; omega
  have sb : small (b : Int) := by unfold small; have : b ≤ 1000 := hq.2.1; omega
  have sc : small (c : Int) := by unfold small; have : c ≤ 1000 := hq.2.2.1; omega
  have sd : small (d : Int) := by unfold small; have : d ≤ 1000 := hq.2.2.2; omega
  have h1 : runP g [.int n, .int (u * a + v * c), .int (u * b + v * d)] = some (encO (symP n (u * a + v * c) (u * b + v * d))) := hg _ _ (by unfold small; dsimp at m1 m2; omega) (by unfold small; dsimp at m3 m4; omega)
  unfold bi enc4
  cases hs : symP n (u * a + v * c) (u * b + v * d) with
  | none =>
    rw [hs] at h1
    refine ⟨some (.v .non), ?_⟩
    have ei : imgL n u v [(a, b, c, d)] = [] := by unfold imgL; simp only [hs]; rfl
    rw [ei, List.append_nil]
    simp [mul_ok su sa, mul_ok sv sc, mul_ok su sb, mul_ok sv sd, h1, encO, Fy.isNon]
  | some p =>
    rw [hs] at h1
    refine ⟨some (.v (encP p)), ?_⟩
    have ei : imgL n u v [(a, b, c, d)] = [idxP (rowsP n) p] := by unfold imgL; simp only [hs]; rfl
    rw [ei]
    have lk := look_num (S := si acc) (sym_row hn hs)
    have ap := appI (l := acc) (i := idxP (rowsP n) p) (by unfold LIM; omega)
    simp [mul_ok su sa, mul_ok sv sc, mul_ok su sb, mul_ok sv sd, h1, encO, isNon_enc, lk, ap, ls_si]
theorem compD_rows {turn : W → Sto → Option (Option (W × W) × Sto)} {S : Sto} (ht : ∀ (i : Nat) (p : Int × Int), turn (.v (.tup false [.int (i : Int), encP p])) S = some (some (.v (encP p), .v (.int (i : Int))), S)) :
    ∀ (l : List (Int × Int)) (j : Nat) (acc : List (List Key × W)) (done : List (Int × Int)), acc.map (·.1) = done.map keyP → (done ++ l).Nodup → acc.length + l.length < LIM → compD free turn (enumW j (l.map encP)) (.t acc) S = some (.t (acc ++ numK l j), S)
  | [], j, acc, done, _, _, _ => by
    show compD free turn [] (.t acc) S = _
    rw [compD, if_pos (show free S from trivial)]
    show _ = some (Gt.t (acc ++ []), S)
    rw [List.append_nil]
  | p :: l, j, acc, done, hk, hn, hl => by
    have hp : p ∉ done := fun z => by
      have := (List.nodup_append.mp hn).2.2 p z p List.mem_cons_self
      exact this rfl
    have hput : (Gt.t acc).put (.v (encP p)) (.v (.int (j : Int))) = some (.t (acc ++ [(keyP p, .v (.int (j : Int)))])) := by
      show (if acc.length < LIM then (keyT (.v (encP p))).map fun k => Gt.t (dput acc k (.v (.int (j : Int)))) else none) = _
      rw [if_pos (by simp at hl; omega), keyT_enc]
      show some (Gt.t (dput acc (keyP p) _)) = _
      rw [dput_N (v := fun _ => .v .non) hp acc hk]
    show compD free turn (W.v (.tup false [.int (j : Int), encP p]) :: enumW (j + 1) (l.map encP)) (.t acc) S = _
    rw [compD, if_pos (show free S from trivial), ht]
    show ((Gt.t acc).put (.v (encP p)) (.v (.int (j : Int)))).bind _ = _
    rw [hput]
    have ih := compD_rows ht l (j + 1) (acc ++ [(keyP p, .v (.int (j : Int)))]) (done ++ [p]) (by simp [hk]) (by simpa using hn) (by simp at hl ⊢; omega)
    show compD free turn (enumW (j + 1) (l.map encP)) _ S = _
    rw [ih, List.append_assoc]; rfl
theorem gt_num (l : List (Int × Int)) : (Gt.t (numK l 0)).D = some (numD l) := by
  have hv : ∀ (l : List (Int × Int)) (k : Nat), (numK l k).map (·.2) = ((List.range' k l.length).map fun i : Nat => D.int (i : Int)).map W.v := by
    intro l
    induction l with
    | nil => intro k; rfl
    | cons p l ih =>
      intro k
      show W.v (.int (k : Nat)) :: (numK l (k + 1)).map (·.2) = _
      rw [ih, List.length_cons, List.range'_succ]; rfl
  show ((toDs ((numK l 0).map (·.2))).map fun ds => D.dT ((numK l 0).map (·.1)) ds) = _
  rw [hv, toDs_map, numK_keys]
  unfold numD
  rw [List.range_eq_range']; rfl
theorem sym_bd {n c d : Int} {p : Int × Int} (hn : okn n) (h : symP n c d = some p) : (0 ≤ p.1 ∧ p.1 < n) ∧ 0 ≤ p.2 ∧ p.2 < n := by
  unfold okn at hn
  unfold symP at h
  split at h
  · obtain ⟨h1, _, _⟩ := min_spec _ _ _ h
    rcases h1 with z | z
    · obtain ⟨u, _, e⟩ := List.mem_map.mp z
      rw [← e]
      exact ⟨⟨Int.emod_nonneg _ (by omega), Int.emod_lt_of_pos _ (by omega)⟩, Int.emod_nonneg _ (by omega), Int.emod_lt_of_pos _ (by omega)⟩
    · cases z
  · cases h
theorem row_sym {n : Int} {p : Int × Int} (h : p ∈ rowsP n) : ∃ c d, symP n c d = some p := by
  have h := (isort_perm _).mem_iff.mp h
  have r1 : ∀ (c : Int) (l : List (Int × Int)) (d : Nat), (∀ q ∈ l, ∃ c d, symP n c d = some q) → ∀ q ∈ rowF n c l d, ∃ c d, symP n c d = some q := by
    intro c l d hl
    induction d with
    | zero => exact hl
    | succ d ih =>
      intro q hq
      have hq : q ∈ addP (rowF n c l d) (symP n c d) := hq
      cases hs : symP n c d with
      | none => rw [hs] at hq; exact ih q hq
      | some p =>
        rw [hs] at hq
        rcases insP_mem.mp hq with z | z
        · exact ih q z
        · subst z; exact ⟨c, d, hs⟩
  have r2 : ∀ k : Nat, ∀ q ∈ foundF n k, ∃ c d, symP n c d = some q := by
    intro k
    induction k with
    | zero => intro q hq; cases hq
    | succ k ih =>
      intro q hq
      have hq : q ∈ (if okc n k then rowF n k (foundF n k) n.toNat else foundF n k) := hq
      split at hq
      · exact r1 _ _ _ ih q hq
      · exact ih q hq
  exact r2 _ p h
theorem rows_bd {n : Int} (hn : okn n) {p : Int × Int} (h : p ∈ rowsP n) : (0 ≤ p.1 ∧ p.1 < 100) ∧ 0 ≤ p.2 ∧ p.2 < 100 := by
  obtain ⟨c, d, hs⟩ := row_sym h
  have := sym_bd hn hs
  have hn' := hn
  unfold okn at hn'
  by_cases e : n = 100
  · subst e; exact this
  · omega
theorem b_image_eq : b_image = xseq (xasg 3 (xcallP f_symbols (xcons (xvar 0) xnil))) (xseq (xasg 4 (xdcV true (xienum (xvar 3)) [13, 12] (xgtup 2 (xgcons (xgname 13) (xgcons (xgname 12) xgnil))) xtt (xvar 12) (xvar 13))) (xseq (xasgG (xgtup 2 (xgcons (xgname 5) (xgcons (xgname 6) xgnil))) (xop ixF (xvar 3) (xvar 2))) (xseq (xasg 7 (xcel (xlst xnil))) (xseq (xfor (xit (xcallP f_heilbronn (xcons (xvar 1) xnil))) (xgtup 4 (xgcons (xgname 8) (xgcons (xgname 9) (xgcons (xgname 10) (xgcons (xgname 11) xgnil))))) (bi f_symbol_of 8 9 10 11 12 7 4 5 6 0)) (xret (xval (xcallL sortF (xcons (xvar 7) xnil)))))))) := rfl
theorem b_law_image_eq : b__law_image = xseq (xasgG (xgtup 2 (xgcons (xgname 5) (xgcons (xgname 6) xgnil))) (xop ixF (xvar 0) (xvar 4))) (xseq (xasg 7 (xcel (xlst xnil))) (xseq (xfor (xit (xcallP f__law_heilbronn (xcons (xvar 3) xnil))) (xgtup 4 (xgcons (xgname 8) (xgcons (xgname 9) (xgcons (xgname 10) (xgcons (xgname 11) xgnil))))) (bi f__law_symbol 8 9 10 11 12 7 1 5 6 2)) (xret (xval (xcallL sortF (xcons (xvar 7) xnil)))))) := rfl
theorem ix_rows {S : Sto} {n : Int} {j : Nat} {u v : Int} (h : (rowsP n)[j]? = some (u, v)) : ixF S (.v (.lst ((rowsP n).map encP))) (.v (.int (j : Int))) = some (.v (.tup true [.int u, .int v])) := by
  show atI (((rowsP n).map encP).map W.v) (j : Int) = _
  refine atI_nat ?_
  rw [List.getElem?_map, List.getElem?_map, h]; rfl
theorem it4 {S : Sto} (l : List T4) : itOf S (.v (.lst (l.map enc4))) = some (l.map (fun q => W.v (enc4 q)), free) := by
  show some ((l.map enc4).map W.v, free) = _
  rw [List.map_map]; rfl
theorem run_image {n : Int} {p j : Nat} {u v : Int} (hn : okn n) (hp : okp p) (hp2 : (rowsP n)[j]? = some (u, v)) : runP f_image [.int n, .int (p : Int), .int (j : Int)] = some (imgD n u v (Hq p)) := by
  have bd := rows_bd hn (List.mem_of_getElem? hp2)
  unfold runP f_image defn
  rw [b_image_eq]
  have hdc : xdcV true (xienum (xvar 3)) [13, 12] (xgtup 2 (xgcons (xgname 13) (xgcons (xgname 12) xgnil))) xtt (xvar 12) (xvar 13) [some (.v (.int n)), some (.v (.int p)), some (.v (.int j)), some (.v (.lst ((rowsP n).map encP))), none, none, none, none, none, none, none, none, none, none] [] = some (.v (numD (rowsP n)), []) := by
    have hc := compD_rows (S := []) (turn := dcTurn [13, 12] (xgtup 2 (xgcons (xgname 13) (xgcons (xgname 12) xgnil))) xtt (xvar 12) (xvar 13) [some (.v (.int n)), some (.v (.int p)), some (.v (.int j)), some (.v (.lst ((rowsP n).map encP))), none, none, none, none, none, none, none, none, none, none]) (fun i q => by
      unfold dcTurn
      simp [wipeR]) (rowsP n) 0 [] [] rfl (by simpa using rows_nodup n) (by have := rows_len hn; simp; unfold LIM; omega)
    rw [List.nil_append] at hc
    unfold xdcV xdc
    have e1 : xienum (xvar 3) [some (.v (.int n)), some (.v (.int p)), some (.v (.int j)), some (.v (.lst ((rowsP n).map encP))), none, none, none, none, none, none, none, none, none, none] [] = some (enumW 0 ((rowsP n).map encP), free, []) := by
      have : srcL [] (.v (.lst ((rowsP n).map encP))) = some (((rowsP n).map encP).map W.v, free) := rfl
      simp only [ev_enum, ev_var, List.getElem?_cons_succ, List.getElem?_cons_zero, Option.join_some, Option.map_some, Option.bind_some, this, toDs_ofmap]
    rw [e1]
    show ((compD free _ (enumW 0 ((rowsP n).map encP)) (.t []) []).bind fun q => q.1.D.map fun d => (W.v d, q.2)) = _
    rw [hc]
    show ((Gt.t (numK (rowsP n) 0)).D.map fun d => (W.v d, ([] : Sto))) = _
    rw [gt_num]; rfl
  have Hb := Hq_len hp
  have lp := for_items (xs := Hq p) (enc := fun q => W.v (enc4 q)) (ok := free) (g := xgtup 4 (xgcons (xgname 8) (xgcons (xgname 9) (xgcons (xgname 10) (xgcons (xgname 11) xgnil))))) (b := bi f_symbol_of 8 9 10 11 12 7 4 5 6 0)
    (fun done rest ρ S => S = si (imgL n u v done) ∧ ∃ w3 w4 w5 w6 w7, ρ = [some (.v (.int n)), some (.v (.int p)), some (.v (.int j)), some (.v (.lst ((rowsP n).map encP))), some (.v (numD (rowsP n))), some (.v (.int u)), some (.v (.int v)), some (.ref 0), w3, w4, w5, w6, w7, none]) (fun _ _ _ _ _ => trivial)
    (fun done q rest ρ S e ⟨e1, w3, w4, w5, w6, w7, e2⟩ => by
      subst e1 e2
      have l1 := imgL_len n u v done
      have l2 : done.length ≤ (Hq p).length := by rw [e]; simp
      obtain ⟨r, hr⟩ := im_turn (n := n) (u := u) (v := v) (q := q) (g := f_symbol_of) (acc := imgL n u v done) hn (fun c d sc sd => run_symbol_of n c d hn sc sd) bd.1 bd.2 (Hq_bd hp (by rw [e]; simp)) (by omega) none (some (.v (.int p))) (some (.v (.int j))) w3 w4 w5 w6 w7 none none
      refine ⟨_, _, _, hr, .inl rfl, ?_, _, _, _, _, _, rfl⟩
      rw [imgL_app])
    (ρ := [some (.v (.int n)), some (.v (.int p)), some (.v (.int j)), some (.v (.lst ((rowsP n).map encP))), some (.v (numD (rowsP n))), some (.v (.int u)), some (.v (.int v)), some (.ref 0), none, none, none, none, none, none]) (S := si []) ⟨rfl, none, none, none, none, none, rfl⟩
  obtain ⟨ρ', S', h1, rfl, w3, w4, w5, w6, w7, rfl⟩ := lp
  have es : si [] = [C.lst []] := rfl
  rw [es] at h1
  have hs := sortI (imgL n u v (Hq p))
  simp [run_symbols n hn, hdc, ix_rows hp2, LIM, run_heil hp, it4, h1, hs]
  unfold imgD
  rfl
theorem run_law_image {n : Int} {p j : Nat} {u v : Int} (hn : okn n) (hp : okp p) (hp2 : (rowsP n)[j]? = some (u, v)) : runP f__law_image [.lst ((rowsP n).map encP), numD (rowsP n), .int n, .int (p : Int), .int (j : Int)] = some (imgD n u v (Hq p)) := by
  have bd := rows_bd hn (List.mem_of_getElem? hp2)
  unfold runP f__law_image defn
  rw [b_law_image_eq]
  have Hb := Hq_len hp
  have lp := for_items (xs := Hq p) (enc := fun q => W.v (enc4 q)) (ok := free) (g := xgtup 4 (xgcons (xgname 8) (xgcons (xgname 9) (xgcons (xgname 10) (xgcons (xgname 11) xgnil))))) (b := bi f__law_symbol 8 9 10 11 12 7 1 5 6 2)
    (fun done rest ρ S => S = si (imgL n u v done) ∧ ∃ w3 w4 w5 w6 w7, ρ = [some (.v (.lst ((rowsP n).map encP))), some (.v (numD (rowsP n))), some (.v (.int n)), some (.v (.int p)), some (.v (.int j)), some (.v (.int u)), some (.v (.int v)), some (.ref 0), w3, w4, w5, w6, w7]) (fun _ _ _ _ _ => trivial)
    (fun done q rest ρ S e ⟨e1, w3, w4, w5, w6, w7, e2⟩ => by
      subst e1 e2
      have l1 := imgL_len n u v done
      have l2 : done.length ≤ (Hq p).length := by rw [e]; simp
      obtain ⟨r, hr⟩ := im_turn2 (n := n) (u := u) (v := v) (q := q) (g := f__law_symbol) (acc := imgL n u v done) hn (fun c d sc sd => run_law_symbol n c d hn sc sd) bd.1 bd.2 (Hq_bd hp (by rw [e]; simp)) (by omega) none (some (.v (.int p))) (some (.v (.int j))) w3 w4 w5 w6 w7 none none
      refine ⟨_, _, _, hr, .inl rfl, ?_, _, _, _, _, _, rfl⟩
      rw [imgL_app])
    (ρ := [some (.v (.lst ((rowsP n).map encP))), some (.v (numD (rowsP n))), some (.v (.int n)), some (.v (.int p)), some (.v (.int j)), some (.v (.int u)), some (.v (.int v)), some (.ref 0), none, none, none, none, none]) (S := si []) ⟨rfl, none, none, none, none, none, rfl⟩
  obtain ⟨ρ', S', h1, rfl, w3, w4, w5, w6, w7, rfl⟩ := lp
  have es : si [] = [C.lst []] := rfl
  rw [es] at h1
  have hs := sortI (imgL n u v (Hq p))
  have hh := run_law_heil hp
  rw [heil_same] at hh
  simp [ix_rows hp2, LIM, hh, it4, h1, hs]
  unfold imgD
  rfl
end Q58
namespace Q58
open PySem PySem.Spec PyProof.Rows L2 Fy
/-! ## the law's equality -/
theorem leq_int (u : Nat) (i : Int) : runP (f__law_eq (u + 1)) [.int i, .int i] = some (.bl true) := by
  unfold runP
  show ((defn 3 (b__law_eq (f__law_eq u)) ([.int i, .int i].map W.v) []).bind fun q => frzR 0 q.2 4 q.1) = _
  unfold defn b__law_eq
  simp [tyW, isTy, truF, xand, xnot, xun, xu, Fy.isNon]
theorem eq_nil {S : Sto} : eqF S (.v (.lst [])) (.v (.lst [])) = some (.v (.bl true)) := rfl
theorem ne_bl {S : Sto} {x y : Bool} : neF S (.v (.bl x)) (.v (.bl y)) = some (.v (.bl (!decide (x = y)))) := by
  show (if okD (.bl x) = true ∧ okD (.bl y) = true then some (W.v (.bl (!eqD (.bl x) (.bl y)))) else none) = _
  have h : okD (.bl x) = true ∧ okD (.bl y) = true := ⟨rfl, rfl⟩
  rw [if_pos h]
  cases x <;> cases y <;> rfl
theorem leq_seq (u : Nat) (d : D) (ds : List D) (hd : d = .lst ds ∨ d = .tup true ds) (h : ∀ e ∈ ds, runP (f__law_eq u) [e, e] = some (.bl true)) (hl : ds.length ≤ LIM) : runP (f__law_eq (u + 1)) [d, d] = some (.bl true) := by
  have hlen : lenF [] [.v d] = some (.v (.int (ds.length : Nat))) := by
    rcases hd with e | e <;> subst e
    · show some (W.v (.int (((ds.map W.v).length : Nat)))) = _
      simp
    · show some (W.v (.int (((ds.map W.v).length : Nat)))) = _
      simp
  have hix : ∀ (j : Nat) (e : D), ds[j]? = some e → ixF [] (.v d) (.v (.int (j : Int))) = some (.v e) := fun j e he => by
    have : ixF [] (.v d) (.v (.int (j : Int))) = atI (ds.map W.v) (j : Int) := by rcases hd with z | z <;> subst z <;> rfl
    rw [this]
    refine atI_nat ?_
    rw [List.getElem?_map, he]; rfl
  have hr : rngOk 0 ((ds.length : Nat) : Int) = true := by rw [rngOk_iff]; unfold BIG; unfold LIM at hl; omega
  have hc : xlc (xirng1 (xcall lenF (xcons (xvar 1) xnil))) [2] (xgname 2) (xtnot (xtru (xcallP (f__law_eq u) (xcons (xop ixF (xvar 0) (xvar 2)) (xcons (xop ixF (xvar 1) (xvar 2)) xnil))))) (xvar 2) [some (.v d), some (.v d), none] [] = some ([], []) := by
    have e : ([] : List W) = (rngW 0 ((ds.length : Nat) : Int)).filterMap fun _ => none := by
      induction (rngW 0 ((ds.length : Nat) : Int)) with
      | nil => rfl
      | cons x l ih => rw [List.filterMap_cons]; exact ih
    rw [e]
    refine xlc_pure (ok := free) (S0 := []) (by simp [hlen, hr]) (by rw [rngW_length]; omega) trivial _ fun w hw => ?_
    obtain ⟨i, e, h1, h2⟩ := rngW_mem hw
    subst e
    obtain ⟨j, rfl⟩ := Int.eq_ofNat_of_zero_le h1
    have hj : ds[j]? = some (ds[j]'(by omega)) := List.getElem?_eq_getElem (by omega)
    have hx := hix j _ hj
    have hq := h _ (List.getElem_mem (by omega : j < ds.length))
    simp [ev_turn, wipeR, hx, hq, truF]
  unfold runP
  show ((defn 3 (b__law_eq (f__law_eq u)) ([d, d].map W.v) []).bind fun q => frzR 0 q.2 4 q.1) = _
  unfold defn b__law_eq
  rcases hd with e | e
  · subst e
    simp [tyW, isTy, truF, ne_bl, hlen, hc, eq_nil, LIM]
  · subst e
    simp [tyW, isTy, truF, ne_bl, hlen, hc, eq_nil, LIM]
theorem leq_ints (u : Nat) (l : List Int) (hl : l.length ≤ LIM) : runP (f__law_eq (u + 2)) [.lst (l.map D.int), .lst (l.map D.int)] = some (.bl true) :=
  leq_seq (u + 1) _ _ (.inl rfl) (fun e he => by obtain ⟨i, _, rfl⟩ := List.mem_map.mp he; exact leq_int u i) (by simpa using hl)
theorem leq_fours (u : Nat) (l : List T4) (hl : l.length ≤ LIM) : runP (f__law_eq (u + 3)) [.lst (l.map enc4), .lst (l.map enc4)] = some (.bl true) :=
  leq_seq (u + 2) _ _ (.inl rfl) (fun e he => by
    obtain ⟨q, _, rfl⟩ := List.mem_map.mp he
    exact leq_seq (u + 1) _ _ (.inr rfl) (fun e he => by
      simp only [List.mem_cons, List.not_mem_nil, or_false] at he
      rcases he with z | z | z | z <;> subst z <;> exact leq_int u _) (by show 4 ≤ LIM; unfold LIM; omega)) (by simpa using hl)
/-! ## the draws -/
/-- the state: the cells, the seed -/
def stt (cs : List Int) (s : Int) : Sto := [.lst (cs.map fun i => W.v (.int i)), .lst [.ref 0, .v (.int s)]]
def okS (cs : List Int) (s : Int) : Prop := cs.length ≤ 63 ∧ 0 ≤ s ∧ s ≤ 2147483647
theorem ix_state {cs : List Int} {s : Int} : ixF (stt cs s) (.ref 1) (.v (.int 0)) = some (.ref 0) := rfl
theorem ix_seed {cs : List Int} {s : Int} : ixF (stt cs s) (.ref 1) (.v (.int 1)) = some (.v (.int s)) := rfl
theorem ix_cell {c : Int} {cs : List Int} {s : Int} : ixF (stt (c :: cs) s) (.ref 0) (.v (.int 0)) = some (.v (.int c)) := by
  show atI ((c :: cs).map fun i => W.v (.int i)) (0 : Nat) = _
  exact atI_nat rfl
theorem len_cells {cs : List Int} {s : Int} : lenF (stt cs s) [.ref 0] = some (.v (.int (cs.length : Nat))) := by
  show some (W.v (.int (((cs.map fun i => W.v (.int i)).length : Nat)))) = _
  rw [List.length_map]
theorem pop_cells {c : Int} {cs : List Int} {s : Int} : popAtF (stt (c :: cs) s) (.ref 0) [.v (.int 0)] = some (.v (.int c), stt cs s) := by
  have e : popAtF (stt (c :: cs) s) (.ref 0) [.v (.int 0)] = (if -1000000 ≤ (0 : Int) ∧ (0 : Int) ≤ 1000000 then (seqIndex? 0 ((c :: cs).map fun i => W.v (.int i)).length).bind fun k => (((c :: cs).map fun i => W.v (.int i))[k]?).map fun y => (y, (stt (c :: cs) s).set 0 (.lst (((c :: cs).map fun i => W.v (.int i)).eraseIdx k))) else none) := rfl
  rw [e, if_pos ⟨by omega, by omega⟩]
  have e2 : seqIndex? 0 ((c :: cs).map fun i => W.v (.int i)).length = some 0 := by
    unfold seqIndex?
    simp
  rw [e2]; rfl
theorem set_cell {c x : Int} {cs : List Int} {s : Int} : setF (stt (c :: cs) s) (.ref 0) (.v (.int 0)) (.v (.int x)) = some (stt (x :: cs) s) := by
  have e : setF (stt (c :: cs) s) (.ref 0) (.v (.int 0)) (.v (.int x)) = (ixN ((c :: cs).map fun i => W.v (.int i)).length 0).map fun n => (stt (c :: cs) s).set 0 (.lst (((c :: cs).map fun i => W.v (.int i)).set n (.v (.int x)))) := rfl
  have e2 : ixN ((c :: cs).map fun i => W.v (.int i)).length 0 = some 0 := by
    unfold ixN
    simp
  rw [e, e2]; rfl
theorem set_seed {x : Int} {cs : List Int} {s : Int} : setF (stt cs s) (.ref 1) (.v (.int 1)) (.v (.int x)) = some (stt cs x) := rfl
theorem ls_state {cs : List Int} {s : Int} : isLs (stt cs s) (.ref 0) = true := rfl
noncomputable def wl : XS := xwhile (xtand (xtb (xop gtF (xcall lenF (xcons (xvar 2) xnil)) (xc (.int 0)))) (xtb (xop eqF (xop ixF (xvar 2) (xc (.int 0))) (xc (.int 0))))) (xexpr (xmeth isLs popAtF (xvar 2) (xcons (xc (.int 0)) xnil)))
theorem wl_run (w0 w1 w3 w4 : Option W) (s : Int) : ∀ cs : List Int, ∃ cs1, wl [w0, w1, some (.ref 0), w3, w4] (stt cs s) = some (.nx, [w0, w1, some (.ref 0), w3, w4], stt cs1 s) ∧ cs1.length ≤ cs.length
  | [] => by
    refine ⟨[], ?_, Nat.le_refl _⟩
    unfold wl
    rw [ev_while]
    simp [len_cells]
  | c :: cs => by
    by_cases h : c = 0
    · subst h
      obtain ⟨cs1, h1, h2⟩ := wl_run w0 w1 w3 w4 s cs
      refine ⟨cs1, ?_, by simp; omega⟩
      unfold wl at h1 ⊢
      rw [ev_while]
      have hp : (0 : Int) < ((cs.length + 1 : Nat) : Int) := by omega
      have hlen := len_cells (cs := 0 :: cs) (s := s)
      rw [List.length_cons] at hlen
      simp only [ev_and, ev_tb, ev_op, ev_call, ev_cons, ev_nil, ev_var, ev_c, List.getElem?_cons_succ, List.getElem?_cons_zero, Option.join_some, Option.map_some, Option.bind_some, hlen, Fy.gt_int, bOf_bl, hp, decide_true, if_true, ix_cell, Fy.eq_int, ev_expr, ev_meth, ls_state, pop_cells, turn_nx, h1]
    · refine ⟨c :: cs, ?_, Nat.le_refl _⟩
      unfold wl
      rw [ev_while]
      have hp : (0 : Int) < ((cs.length + 1 : Nat) : Int) := by omega
      have hlen := len_cells (cs := c :: cs) (s := s)
      rw [List.length_cons] at hlen
      have hc : decide (c = 0) = false := decide_eq_false h
      simp only [ev_and, ev_tb, ev_op, ev_call, ev_cons, ev_nil, ev_var, ev_c, List.getElem?_cons_succ, List.getElem?_cons_zero, Option.join_some, Option.map_some, Option.bind_some, hlen, Fy.gt_int, bOf_bl, hp, decide_true, if_true, ix_cell, Fy.eq_int, hc, Bool.false_eq_true, if_false]
theorem b_draw_eq : b__law_draw = xseq (xasg 2 (xop ixF (xvar 0) (xc (.int 0)))) (xseq wl (xseq (xifS (xtb (xop gtF (xcall lenF (xcons (xvar 2) xnil)) (xc (.int 0)))) (xseq (xasg 3 (xop ixF (xvar 2) (xc (.int 0)))) (xseq (xasgG (xgsub (xvar 2) (xc (.int 0))) (xop fdivF (xvar 3) (xvar 1))) (xret (xop modF (xcall intF (xcons (xvar 3) xnil)) (xvar 1))))) xskip) (xseq (xasg 4 (xop modF (xcall intF (xcons (xop addF (xop mulF (xop ixF (xvar 0) (xc (.int 1))) (xc (.int 48271))) (xc (.int 12345))) xnil)) (xc (.int 2147483647)))) (xseq (xasgG (xgsub (xvar 0) (xc (.int 1))) (xvar 4)) (xret (xop modF (xcall intF (xcons (xop fdivF (xvar 4) (xc (.int 64))) xnil)) (xvar 1))))))) := rfl
theorem runD_of {g : Fn} {ws : List W} {cs cs' : List Int} {s s' : Int} {d : D} (h : g ws (stt cs s) = some (.one (.v d), stt cs' s')) : runD g ws (stt cs s) = some (d, stt cs' s') := by
  unfold runD
  rw [h]
  have a : ((stt cs' s').take (stt cs s).length).all (okC (stt cs s).length) = true := by
    show ([C.lst (cs'.map fun i => W.v (.int i)), C.lst [.ref 0, .v (.int s')]].all (okC 2)) = true
    rw [List.all_cons, List.all_cons]
    have : okC 2 (.lst (cs'.map fun i => W.v (.int i))) = true := by
      show ((cs'.map fun i => W.v (.int i)).all (okW 2)) = true
      rw [List.all_map, List.all_eq_true]; intro i _; rfl
    rw [this]; rfl
  show (if _ then _ else _) = _
  rw [if_pos a, frzR_v]; rfl
theorem run_draw {cs : List Int} {s m : Int} (hm : 0 < m ∧ m ≤ 1000000) (h : okS cs s) : ∃ r cs' s', runD f__law_draw [.ref 1, .v (.int m)] (stt cs s) = some (.int r, stt cs' s') ∧ 0 ≤ r ∧ r < m ∧ okS cs' s' := by
  obtain ⟨cs1, h1, h2⟩ := wl_run (some (.ref 1)) (some (.v (.int m))) none none s cs
  have dm : divOk m = true := div_ok hm.1 hm.2
  have d64 : divOk 64 = true := div_ok (by omega) (by omega)
  unfold okS at h
  cases cs1 with
  | nil =>
    have mo : mulOk s 48271 = true := mulOk_small (by omega) (by decide)
    refine ⟨((s * 48271 + 12345) % 2147483647) / 64 % m, [], (s * 48271 + 12345) % 2147483647, runD_of ?_, Int.emod_nonneg _ (by omega), Int.emod_lt_of_pos _ hm.1, ?_⟩
    · unfold f__law_draw defn
      rw [b_draw_eq]
      have hl := len_cells (cs := []) (s := s)
      simp [ix_state, h1, hl, ix_seed, mo, set_seed, d64, hm.1]
    · have a := Int.emod_nonneg (s * 48271 + 12345) (show (2147483647 : Int) ≠ 0 by omega)
      have b := Int.emod_lt_of_pos (s * 48271 + 12345) (show (0 : Int) < 2147483647 by omega)
      exact ⟨by simp, a, by omega⟩
  | cons c cs1 =>
    refine ⟨c % m, (c / m) :: cs1, s, runD_of ?_, Int.emod_nonneg _ (by omega), Int.emod_lt_of_pos _ hm.1, ?_⟩
    · unfold f__law_draw defn
      rw [b_draw_eq]
      have hl := len_cells (cs := c :: cs1) (s := s)
      rw [List.length_cons] at hl
      have hp : (0 : Int) < ((cs1.length + 1 : Nat) : Int) := by omega
      generalize ((cs1.length + 1 : Nat) : Int) = L at hl hp
      simp [ix_state, h1, hl, hp, ix_cell, dm, set_cell, hm.1]
    · refine ⟨?_, h.2⟩
      simp at h2 ⊢
      omega
theorem run_pick {cs : List Int} {s : Int} {ds : List D} (h0 : ds ≠ []) (hl : ds.length ≤ 1000) (h : okS cs s) : ∃ d cs' s', runD f__law_pick [.ref 1, .v (.lst ds)] (stt cs s) = some (d, stt cs' s') ∧ d ∈ ds ∧ okS cs' s' := by
  have hp := List.length_pos_iff.mpr h0
  obtain ⟨r, cs', s', h1, r0, r1, h2⟩ := run_draw (m := (ds.length : Int)) (by omega) h
  obtain ⟨j, rfl⟩ := Int.eq_ofNat_of_zero_le r0
  have hj : j < ds.length := by omega
  refine ⟨ds[j], cs', s', runD_of ?_, List.getElem_mem hj, h2⟩
  have hlen : lenF (stt cs s) [.v (.lst ds)] = some (.v (.int (ds.length : Nat))) := by
    show some (W.v (.int (((ds.map W.v).length : Nat)))) = _
    simp
  have hix : ixF (stt cs' s') (.v (.lst ds)) (.v (.int (j : Int))) = some (.v ds[j]) := by
    show atI (ds.map W.v) (j : Int) = _
    refine atI_nat ?_
    rw [List.getElem?_map, List.getElem?_eq_getElem hj]; rfl
  unfold f__law_pick defn b__law_pick
  simp [hlen, h1, hix]
end Q58
namespace Q58
open PySem PySem.Spec PyProof.Rows L2 Fy
/-! ## how many symbols: some number -/
def lsto (l : List Int) : Sto := si l
noncomputable def lcp : XA := xlc (xit (xvar 1)) [3] (xgname 3) xtt (xop neF (xop modF (xvar 2) (xvar 3)) (xc (.int 0)))
noncomputable def bpp : XS := xifS (xtand (xtb (xop eqF (xop modF (xvar 0) (xvar 2)) (xc (.int 0)))) (xtru (xcall allF (xcons (xval lcp) xnil)))) (xexpr (xmeth isLs appF (xvar 1) (xcons (xvar 2) xnil))) xskip
theorem b_primes_eq : b_primes_of = xseq (xasg 1 (xcel (xlst xnil))) (xseq (xfor (xirng2 (xc (.int 2)) (xop addF (xvar 0) (xc (.int 1)))) (xgname 2) bpp) (xret (xvar 1))) := rfl
def goodL (l : List Int) (i : Int) : Prop := (∀ q ∈ l, 2 ≤ q ∧ q ≤ 100) ∧ l.length ≤ i.toNat
theorem lcp_run {n i : Int} {l : List Int} (hl : ∀ q ∈ l, 2 ≤ q ∧ q ≤ 100) (hn : l.length ≤ 1000) (x : Option W) : lcp [some (.v (.int n)), some (.ref 0), some (.v (.int i)), x] (si l) = some ((l.map fun q => D.bl (!decide (i % q = 0))).map W.v, si l) := by
  have e : ((l.map fun q => D.bl (!decide (i % q = 0))).map W.v) = (l.map fun q => W.v (.int q)).filterMap fun w => (intOf w).map fun q => W.v (.bl (!decide (i % q = 0))) := by
    rw [List.map_map, List.filterMap_map, ← filterMap_some]; rfl
  rw [e]
  unfold lcp
  refine xlc_pure (ok := fun S => S[0]? = some (.lst (l.map fun i => W.v (.int i)))) (S0 := si l) ?_ (by rw [List.length_map]; unfold LIM; omega) rfl _ fun w hw => ?_
  · have : itOf (si l) (.ref 0) = some (l.map fun i => W.v (.int i), fun S => S[0]? = some (.lst (l.map fun i => W.v (.int i)))) := rfl
    simp [this]
  · obtain ⟨q, hq, e⟩ := List.mem_map.mp hw
    subst e
    have hq0 : 0 < q := by have := hl q hq; omega
    simp [ev_turn, wipeR, hq0]
theorem blsD_fun {f : Int → Bool} (l : List Int) : blsD (l.map fun q => D.bl (f q)) = some (l.map f) := by
  have := blsD_map (l.map f)
  rw [List.map_map] at this
  exact this
theorem run_primes {n : Int} (hn : okn n) : ∃ l : List Int, runP f_primes_of [.int n] = some (.lst (l.map D.int)) ∧ (∀ q ∈ l, 2 ≤ q ∧ q ≤ 100) ∧ l.length ≤ 101 := by
  have hn' := hn
  unfold okn at hn'
  have step : ∀ i ρ S, 2 ≤ i → i < n + 1 → (∃ l, goodL l i ∧ S = si l ∧ ∃ x y, ρ = [some (.v (.int n)), some (.ref 0), x, y]) →
      ∃ fl ρ' S', ((xgname 2 (.v (.int i)) ρ S).bind fun q => bpp q.1 q.2) = some (fl, ρ', S') ∧ (fl = .nx ∨ fl = .ct) ∧ (∃ l, goodL l (i + 1) ∧ S' = si l ∧ ∃ x y, ρ' = [some (.v (.int n)), some (.ref 0), x, y]) := by
    rintro i ρ S i0 i1 ⟨l, ⟨g1, g2⟩, rfl, x, y, rfl⟩
    have i2 : 0 < i := by omega
    have hc := lcp_run (n := n) (i := i) g1 (by omega) y
    have ap := appI (l := l) (i := i) (by unfold LIM; omega)
    have ha : allF (si l) [.v (.lst (l.map fun q => D.bl (!decide (i % q = 0))))] = some (.v (.bl ((l.map fun q => !decide (i % q = 0)).all fun b => b))) := by
      have : blsW (si l) (.v (.lst (l.map fun q => D.bl (!decide (i % q = 0))))) = some (l.map fun q => !decide (i % q = 0)) := by
        show ((some ((l.map fun q => D.bl (!decide (i % q = 0))).map W.v)).bind fun ws => (toDs ws).bind blsD) = _
        show ((toDs ((l.map fun q => D.bl (!decide (i % q = 0))).map W.v)).bind blsD) = _
        rw [toDs_map]
        exact blsD_fun l
      show (blsW _ _).map _ = _
      rw [this]; rfl
    generalize ((l.map fun q => !decide (i % q = 0)).all fun b => b) = b at ha
    generalize hds : (l.map fun q => D.bl (!decide (i % q = 0))) = ds at hc ha
    have same : goodL l (i + 1) := ⟨g1, by omega⟩
    unfold bpp
    by_cases c : n % i = 0
    · cases b with
      | true =>
        refine ⟨.nx, [some (.v (.int n)), some (.ref 0), some (.v (.int i)), y], si (l ++ [i]), ?_, .inl rfl, l ++ [i], ⟨fun q hq => ?_, by simp; omega⟩, rfl, _, _, rfl⟩
        · simp [i2, c, hc, ha, truF, ls_si, ap]
        · rcases List.mem_append.mp hq with z | z
          · exact g1 q z
          · have : q = i := by simpa using z
            omega
      | false =>
        refine ⟨.nx, [some (.v (.int n)), some (.ref 0), some (.v (.int i)), y], si l, ?_, .inl rfl, l, same, rfl, _, _, rfl⟩
        simp [i2, c, hc, ha, truF]
    · refine ⟨.nx, [some (.v (.int n)), some (.ref 0), some (.v (.int i)), y], si l, ?_, .inl rfl, l, same, rfl, _, _, rfl⟩
      simp [i2, c]
  have r2 : rngOk 2 (n + 1) = true := by rw [rngOk_iff]; unfold BIG; omega
  obtain ⟨ρ', S', h1, l, ⟨g1, g2⟩, rfl, x, y, rfl⟩ := for_rng (lo := 2) (hi := n + 1) (g := xgname 2) (b := bpp) (fun i ρ S => ∃ l, goodL l i ∧ S = si l ∧ ∃ x y, ρ = [some (.v (.int n)), some (.ref 0), x, y]) (by omega) step (ρ := [some (.v (.int n)), some (.ref 0), none, none]) (S := si []) ⟨[], ⟨by simp, by simp⟩, rfl, none, none, rfl⟩
  refine ⟨l, ?_, g1, by omega⟩
  unfold runP f_primes_of defn
  rw [b_primes_eq]
  have es : si [] = [C.lst []] := rfl
  rw [es] at h1
  have hfr : frzR 0 (si l) 4 (.one (.ref 0)) = some (.lst (l.map D.int)) := by
    have hm : mapO (frzW 0 (si l) 3) (l.map fun i => W.v (.int i)) = some (l.map D.int) := by
      generalize si l = Z
      clear h1 g1 g2
      induction l with
      | nil => rfl
      | cons i l ih =>
        show ((frzW 0 _ 3 (.v (.int i))).bind fun d => (mapO _ (l.map fun i => W.v (.int i))).map (d :: ·)) = _
        rw [ih]; rfl
    show (mapO (frzW 0 (si l) 3) (l.map fun i => W.v (.int i))).map D.lst = _
    rw [hm]; rfl
  simp [r2, h1, LIM, hfr]
theorem run_count {n : Int} (hn : okn n) : ∃ k : Int, runP f_count_symbols [.int n] = some (.int k) := by
  obtain ⟨l, h1, h2, h3⟩ := run_primes hn
  unfold okn at hn
  have lp := for_items (xs := l) (enc := fun i : Int => W.v (.int i)) (ok := free) (g := xgname 2) (b := xasg 1 (xop mulF (xop fdivF (xvar 1) (xvar 2)) (xop addF (xvar 2) (xc (.int 1)))))
    (fun done rest ρ S => S = [] ∧ ∃ t x, 0 ≤ t ∧ t ≤ 100 * 2 ^ done.length ∧ ρ = [some (.v (.int n)), some (.v (.int t)), x]) (fun _ _ _ _ _ => trivial)
    (fun done q rest ρ S e ⟨e1, t, x, t0, t1, e2⟩ => by
      subst e1 e2
      have hq := h2 q (by rw [e]; simp)
      have dq : divOk q = true := div_ok (by omega) (by omega)
      have q0 : 0 < q := by omega
      have a0 : 0 ≤ t / q := Int.ediv_nonneg t0 (by omega)
      have a1 : t / q * q ≤ t := Int.ediv_mul_le t (by omega)
      have a2 : t / q * (q + 1) = t / q * q + t / q := by rw [Int.mul_add, Int.mul_one]
      have a3 : t / q ≤ t := by
        have : t / q * 1 ≤ t / q * q := Int.mul_le_mul_of_nonneg_left (by omega) a0
        omega
      have dl : done.length ≤ 100 := by
        have : l.length = done.length + (rest.length + 1) := by rw [e]; simp
        omega
      have big : (2 : Int) ^ done.length ≤ 2 ^ 100 := by exact_mod_cast Nat.pow_le_pow_right (by omega) dl
      have mo : mulOk (t / q) (q + 1) = true := by
        refine mulOk_small ?_ ?_
        · have : (100 : Int) * 2 ^ 100 ≤ 10 ^ 100 := by decide +kernel
          omega
        · exact Nat.le_trans (show (q + 1).natAbs ≤ 1000 by omega) (by decide +kernel)
      refine ⟨.nx, [some (.v (.int n)), some (.v (.int (t / q * (q + 1)))), some (.v (.int q))], [], ?_, .inl rfl, rfl, t / q * (q + 1), _, Int.mul_nonneg a0 (by omega), ?_, rfl⟩
      · simp [dq, mo]
      · rw [List.length_append, List.length_singleton, Int.pow_succ]
        omega)
    (ρ := [some (.v (.int n)), some (.v (.int n)), none]) (S := []) ⟨rfl, n, none, by omega, by simp; omega, rfl⟩
  obtain ⟨ρ', S', r1, rfl, t, x, _, _, rfl⟩ := lp
  refine ⟨t, ?_⟩
  have hit : itOf [] (.v (.lst (l.map D.int))) = some (l.map (fun i : Int => W.v (.int i)), free) := by
    show some ((l.map D.int).map W.v, free) = _
    rw [List.map_map]; rfl
  unfold runP f_count_symbols defn b_count_symbols
  simp [h1, hit, r1]
end Q58
namespace Q58
open PySem PySem.Spec PyProof.Rows L2 Fy
/-! ## the state, the law -/
def absI (i : Int) : Int := if i < 0 then -i else i
theorem it_fl {S : Sto} (ns : List Int) : itOf S (.v (.fl (ns.map D.int))) = some (ns.map (fun i : Int => W.v (.int i)), free) := by
  show some ((ns.map D.int).map W.v, free) = _
  rw [List.map_map]; rfl
theorem run_state (ns : List Int) (hn : ns.length ≤ 63) : ∃ cs s, f__law_state [.v (.fl (ns.map D.int))] [] = some (.one (.ref 1), stt cs s) ∧ okS cs s := by
  have lp := for_items (xs := ns) (enc := fun i : Int => W.v (.int i)) (ok := free) (g := xgname 2) (b := xasg 1 (xop modF (xcall intF (xcons (xop addF (xop mulF (xvar 1) (xc (.int 31))) (xvar 2)) xnil)) (xc (.int 1000003))))
    (fun done rest ρ S => S = [] ∧ ∃ t x, 0 ≤ t ∧ t < 1000003 ∧ ρ = [some (.v (.fl (ns.map D.int))), some (.v (.int t)), x]) (fun _ _ _ _ _ => trivial)
    (fun done q rest ρ S e ⟨e1, t, x, t0, t1, e2⟩ => by
      subst e1 e2
      have mo : mulOk t 31 = true := mulOk_small (Nat.le_trans (show t.natAbs ≤ 10000000 by omega) (by decide +kernel)) (by decide +kernel)
      refine ⟨.nx, [some (.v (.fl (ns.map D.int))), some (.v (.int ((t * 31 + q) % 1000003))), some (.v (.int q))], [], ?_, .inl rfl, rfl, (t * 31 + q) % 1000003, _, Int.emod_nonneg _ (by omega), Int.emod_lt_of_pos _ (by omega), rfl⟩
      simp [mo])
    (ρ := [some (.v (.fl (ns.map D.int))), some (.v (.int 7)), none]) (S := []) ⟨rfl, 7, none, by omega, by omega, rfl⟩
  obtain ⟨ρ', S', h1, rfl, t, x, t0, t1, rfl⟩ := lp
  have hc : xlc (xit (xvar 0)) [2] (xgname 2) xtt (xcall absF (xcons (xvar 2) xnil)) [some (.v (.fl (ns.map D.int))), some (.v (.int t)), x] [] = some ((ns.map absI).map fun i => W.v (.int i), []) := by
    have e : ((ns.map absI).map fun i => W.v (.int i)) = (ns.map fun i : Int => W.v (.int i)).filterMap fun w => (intOf w).map fun i => W.v (.int (absI i)) := by
      rw [List.map_map, List.filterMap_map, ← filterMap_some]; rfl
    rw [e]
    refine xlc_pure (ok := free) (S0 := []) (by simp [it_fl]) (by rw [List.length_map]; unfold LIM; omega) trivial _ fun w hw => ?_
    obtain ⟨q, hq, e⟩ := List.mem_map.mp hw
    subst e
    simp [ev_turn, wipeR, absI]
  refine ⟨ns.map absI, t + 1, ?_, by rw [List.length_map]; exact hn, by omega, by omega⟩
  unfold f__law_state defn b__law_state
  simp [it_fl, h1, hc, LIM]
  unfold stt
  rw [List.map_map]
theorem rows_ne {n : Int} (hn : okn n) : rowsP n ≠ [] := by
  have g : gI (gI 0 1) n = 1 := by unfold gI; simp
  have h : ∃ p, symP n 0 1 = some p := by
    unfold symP
    rw [if_pos g]
    refine min_some _ _ (.inl ?_)
    intro z
    exact one_unit hn (List.map_eq_nil_iff.mp z)
  obtain ⟨p, hp⟩ := h
  exact List.ne_nil_of_mem (sym_row hn hp)
noncomputable def bq : XS := xseq (xasg 7 (xcallD f__law_draw (xcons (xvar 1) (xcons (xcall lenF (xcons (xvar 4) xnil)) xnil)))) (xseq (xasg 8 (xif (xtb (xop eqF (xvar 6) (xc (.int 0)))) (xvar 2) (xcallD f__law_pick (xcons (xvar 1) (xcons (xval (xlst (xcons (xc (.int 2)) (xcons (xc (.int 3)) (xcons (xc (.int 5)) (xcons (xc (.int 7)) xnil)))))) xnil))))) (xifS (xtnot (xtru (xcallP (f__law_eq 4) (xcons (xcallP f_image (xcons (xvar 3) (xcons (xvar 8) (xcons (xvar 7) xnil)))) (xcons (xcallP f__law_image (xcons (xvar 4) (xcons (xvar 5) (xcons (xvar 3) (xcons (xvar 8) (xcons (xvar 7) xnil)))))) xnil))))) (xret (xc (.bl false))) xskip))
noncomputable def bn : XS := xseq (xasg 3 (xif (xtb (xop leF (xcallP f_count_symbols (xcons (xvar 3) xnil)) (xc (.int 120)))) (xvar 3) (xc (.int 36)))) (xseq (xasgG (xgtup 2 (xgcons (xgname 4) (xgcons (xgname 5) xgnil))) (xcallP f__law_symbols (xcons (xvar 3) xnil))) (xfor (xirng1 (xc (.int 4))) (xgname 6) bq))
noncomputable def menu : XA := xlst (xcons (xop addF (xc (.int 1)) (xcallD f__law_draw (xcons (xvar 1) (xcons (xc (.int 60)) xnil)))) (xcons (xvar 2) (xcons (xcallD f__law_pick (xcons (xvar 1) (xcons (xval (xlst (xcons (xop mulF (xc (.int 2)) (xvar 2)) (xcons (xc (.int 4)) (xcons (xc (.int 25)) (xcons (xc (.int 30)) (xcons (xc (.int 48)) (xcons (xc (.int 49)) (xcons (xc (.int 72)) (xcons (xc (.int 97)) xnil)))))))))) xnil))) xnil)))
theorem b_law_eq : b_law = xseq (xasg 1 (xcallS f__law_state (xcons (xvar 0) xnil))) (xseq (xasg 2 (xcallD f__law_pick (xcons (xvar 1) (xcons (xval (xlst (xcons (xc (.int 2)) (xcons (xc (.int 3)) (xcons (xc (.int 5)) (xcons (xc (.int 7)) (xcons (xc (.int 11)) (xcons (xc (.int 13)) (xcons (xc (.int 17)) (xcons (xc (.int 19)) (xcons (xc (.int 23)) xnil))))))))))) xnil)))) (xseq (xifS (xtnot (xtru (xcallP (f__law_eq 4) (xcons (xcallP f_heilbronn (xcons (xvar 2) xnil)) (xcons (xcallP f__law_heilbronn (xcons (xvar 2) xnil)) xnil))))) (xret (xc (.bl false))) xskip) (xseq (xfor (xit (xval menu)) (xgname 3) bn) (xret (xc (.bl true)))))) := rfl
theorem len_rows {S : Sto} {n : Int} : lenF S [.v (.lst ((rowsP n).map encP))] = some (.v (.int ((rowsP n).length : Nat))) := by
  show some (W.v (.int ((((rowsP n).map encP).map W.v).length : Nat))) = _
  simp
theorem imgD_eq {n u v : Int} {p : Nat} (hp : okp p) : runP (f__law_eq 4) [imgD n u v (Hq p), imgD n u v (Hq p)] = some (.bl true) := by
  unfold imgD
  refine leq_ints 2 _ ?_
  rw [isort_length]
  have := imgL_len n u v (Hq p)
  have := Hq_len hp
  unfold LIM; omega
theorem bq_run {n : Int} {p : Nat} {i : Int} {cs : List Int} {s : Int} (hn : okn n) (hp : okp p) (hs : okS cs s) (w0 x y z : Option W) :
    ∃ cs' s' a b c, ((xgname 6 (.v (.int i)) [w0, some (.ref 1), some (.v (.int p)), some (.v (.int n)), some (.v (.lst ((rowsP n).map encP))), some (.v (numD (rowsP n))), x, y, z] (stt cs s)).bind fun q => bq q.1 q.2) = some (.nx, [w0, some (.ref 1), some (.v (.int p)), some (.v (.int n)), some (.v (.lst ((rowsP n).map encP))), some (.v (numD (rowsP n))), a, b, c], stt cs' s') ∧ okS cs' s' := by
  have hl := rows_len hn
  have hpos := List.length_pos_iff.mpr (rows_ne hn)
  obtain ⟨r, cs1, s1, d1, r0, r1, hs1⟩ := run_draw (m := ((rowsP n).length : Int)) (by omega) hs
  obtain ⟨j, rfl⟩ := Int.eq_ofNat_of_zero_le r0
  have hj : j < (rowsP n).length := by omega
  obtain ⟨⟨u, v⟩, hp2⟩ : ∃ q, (rowsP n)[j]? = some q := ⟨_, List.getElem?_eq_getElem hj⟩
  unfold bq
  by_cases hi : i = 0
  · refine ⟨cs1, s1, some (.v (.int i)), some (.v (.int (j : Int))), some (.v (.int (p : Int))), ?_, hs1⟩
    have i1 := run_image hn hp hp2
    have i2 := run_law_image hn hp hp2
    have i3 := imgD_eq (n := n) (u := u) (v := v) hp
    simp [len_rows, d1, hi, i1, i2, i3, truF]
  · obtain ⟨d, cs2, s2, d2, dm, hs2⟩ := run_pick (ds := [.int 2, .int 3, .int 5, .int 7]) (by simp) (by simp) hs1
    obtain ⟨k, rfl, hk⟩ : ∃ k : Nat, d = .int (k : Int) ∧ okp k := by
      simp only [List.mem_cons, List.not_mem_nil, or_false] at dm
      rcases dm with e | e | e | e
      · exact ⟨2, e, by unfold okp; omega⟩
      · exact ⟨3, e, by unfold okp; omega⟩
      · exact ⟨5, e, by unfold okp; omega⟩
      · exact ⟨7, e, by unfold okp; omega⟩
    refine ⟨cs2, s2, some (.v (.int i)), some (.v (.int (j : Int))), some (.v (.int (k : Int))), ?_, hs2⟩
    have i1 := run_image hn hk hp2
    have i2 := run_law_image hn hk hp2
    have i3 := imgD_eq (n := n) (u := u) (v := v) hk
    simp [len_rows, d1, hi, d2, i1, i2, i3, truF, LIM]
theorem bn_run {n : Int} {p : Nat} {cs : List Int} {s : Int} (hn0 : okn n) (hp : okp p) (hs : okS cs s) (w0 x0 x1 x2 x y z : Option W) :
    ∃ cs' s' a b c d e f, ((xgname 3 (.v (.int n)) [w0, some (.ref 1), some (.v (.int p)), x0, x1, x2, x, y, z] (stt cs s)).bind fun q => bn q.1 q.2) = some (.nx, [w0, some (.ref 1), some (.v (.int p)), a, b, c, d, e, f], stt cs' s') ∧ okS cs' s' := by
  obtain ⟨k, hk⟩ := run_count hn0
  have key : ∀ m : Int, okn m → ∃ cs' s' a b c, forB free (xgname 6) bq (rngW 0 4) [w0, some (.ref 1), some (.v (.int p)), some (.v (.int m)), some (.v (.lst ((rowsP m).map encP))), some (.v (numD (rowsP m))), x, y, z] (stt cs s) = some (.nx, [w0, some (.ref 1), some (.v (.int p)), some (.v (.int m)), some (.v (.lst ((rowsP m).map encP))), some (.v (numD (rowsP m))), a, b, c], stt cs' s') ∧ okS cs' s' := by
    intro m hm
    have st : ∀ i ρ S, 0 ≤ i → i < 4 → (∃ cs s a b c, okS cs s ∧ S = stt cs s ∧ ρ = [w0, some (.ref 1), some (.v (.int p)), some (.v (.int m)), some (.v (.lst ((rowsP m).map encP))), some (.v (numD (rowsP m))), a, b, c]) →
        ∃ fl ρ' S', ((xgname 6 (.v (.int i)) ρ S).bind fun q => bq q.1 q.2) = some (fl, ρ', S') ∧ (fl = .nx ∨ fl = .ct) ∧ (∃ cs s a b c, okS cs s ∧ S' = stt cs s ∧ ρ' = [w0, some (.ref 1), some (.v (.int p)), some (.v (.int m)), some (.v (.lst ((rowsP m).map encP))), some (.v (numD (rowsP m))), a, b, c]) := by
      rintro i ρ S _ _ ⟨cs, s, a, b, c, h, rfl, rfl⟩
      obtain ⟨cs', s', a', b', c', h1, h2⟩ := bq_run (i := i) hm hp h w0 a b c
      exact ⟨.nx, _, _, h1, .inl rfl, cs', s', a', b', c', h2, rfl, rfl⟩
    obtain ⟨ρ', S', h1, cs', s', a, b, c, h2, rfl, rfl⟩ := for_rng (lo := 0) (hi := 4) (g := xgname 6) (b := bq) (fun i ρ S => ∃ cs s a b c, okS cs s ∧ S = stt cs s ∧ ρ = [w0, some (.ref 1), some (.v (.int p)), some (.v (.int m)), some (.v (.lst ((rowsP m).map encP))), some (.v (numD (rowsP m))), a, b, c]) (by omega) st (ρ := [w0, some (.ref 1), some (.v (.int p)), some (.v (.int m)), some (.v (.lst ((rowsP m).map encP))), some (.v (numD (rowsP m))), x, y, z]) (S := stt cs s) ⟨cs, s, x, y, z, hs, rfl, rfl⟩
    exact ⟨cs', s', a, b, c, h1, h2⟩
  have r4 : rngOk 0 4 = true := by rw [rngOk_iff]; unfold BIG; omega
  unfold bn
  by_cases c120 : k ≤ 120
  · obtain ⟨cs', s', a, b, c, h1, h2⟩ := key n hn0
    have hsy := run_law_symbols n hn0
    refine ⟨cs', s', some (.v (.int n)), some (.v (.lst ((rowsP n).map encP))), some (.v (numD (rowsP n))), a, b, c, ?_, h2⟩
    simp [hk, c120, hsy, r4, h1]
  · have h36 : okn 36 := by unfold okn; omega
    obtain ⟨cs', s', a, b, c, h1, h2⟩ := key 36 h36
    have hsy := run_law_symbols 36 h36
    refine ⟨cs', s', some (.v (.int 36)), some (.v (.lst ((rowsP 36).map encP))), some (.v (numD (rowsP 36))), a, b, c, ?_, h2⟩
    simp [hk, c120, hsy, r4, h1]
theorem law_true : ∀ ns : List Int, ns.length ≤ 63 → ∃ S', f_law [.v (.fl (ns.map D.int))] [] = some (.one (.v (.bl true)), S') := by
  intro ns hn
  obtain ⟨cs, s, h1, hs⟩ := run_state ns hn
  obtain ⟨d, cs1, s1, h2, dm, hs1⟩ := run_pick (ds := [.int 2, .int 3, .int 5, .int 7, .int 11, .int 13, .int 17, .int 19, .int 23]) (by simp) (by simp) hs
  obtain ⟨p, rfl, hp⟩ : ∃ k : Nat, d = .int (k : Int) ∧ okp k := by
    simp only [List.mem_cons, List.not_mem_nil, or_false] at dm
    rcases dm with e | e | e | e | e | e | e | e | e
    · exact ⟨2, e, by unfold okp; omega⟩
    · exact ⟨3, e, by unfold okp; omega⟩
    · exact ⟨5, e, by unfold okp; omega⟩
    · exact ⟨7, e, by unfold okp; omega⟩
    · exact ⟨11, e, by unfold okp; omega⟩
    · exact ⟨13, e, by unfold okp; omega⟩
    · exact ⟨17, e, by unfold okp; omega⟩
    · exact ⟨19, e, by unfold okp; omega⟩
    · exact ⟨23, e, by unfold okp; omega⟩
  have hp' := hp
  unfold okp at hp'
  have e1 := run_heil hp
  have e2 := run_law_heil hp
  rw [heil_same] at e2
  have e3 := leq_fours 1 (Hq p) (by have := Hq_len hp; unfold LIM; omega)
  obtain ⟨r, cs2, s2, h3, r0, r1, hs2⟩ := run_draw (m := 60) (by omega) hs1
  obtain ⟨d', cs3, s3, h4, dm', hs3⟩ := run_pick (ds := [.int (2 * (p : Int)), .int 4, .int 25, .int 30, .int 48, .int 49, .int 72, .int 97]) (by simp) (by simp) hs2
  obtain ⟨m, rfl, hm⟩ : ∃ k : Int, d' = .int k ∧ okn k := by
    simp only [List.mem_cons, List.not_mem_nil, or_false] at dm'
    rcases dm' with e | e | e | e | e | e | e | e
    · exact ⟨_, e, by unfold okn; omega⟩
    · exact ⟨_, e, by unfold okn; omega⟩
    · exact ⟨_, e, by unfold okn; omega⟩
    · exact ⟨_, e, by unfold okn; omega⟩
    · exact ⟨_, e, by unfold okn; omega⟩
    · exact ⟨_, e, by unfold okn; omega⟩
    · exact ⟨_, e, by unfold okn; omega⟩
    · exact ⟨_, e, by unfold okn; omega⟩
  have sp : small (p : Int) := by unfold small; omega
  have s2' : small (2 : Int) := by unfold small; omega
  have hmenu : menu [some (.v (.fl (ns.map D.int))), some (.ref 1), some (.v (.int p)), none, none, none, none, none, none] (stt cs1 s1) = some ([(1 + r), (p : Int), m].map fun i => W.v (.int i), stt cs3 s3) := by
    unfold menu
    simp [h3, h4, mul_ok s2' sp, LIM]
  have hitm : itOf (stt cs3 s3) (.v (.lst [.int (1 + r), .int (p : Int), .int m])) = some ([(1 + r), (p : Int), m].map fun i => W.v (.int i), free) := rfl
  have lp := for_items (xs := [(1 + r), (p : Int), m]) (enc := fun i : Int => W.v (.int i)) (ok := free) (g := xgname 3) (b := bn)
    (fun done rest ρ S => (∀ q ∈ rest, okn q) ∧ ∃ cs s a b c d e f, okS cs s ∧ S = stt cs s ∧ ρ = [some (.v (.fl (ns.map D.int))), some (.ref 1), some (.v (.int p)), a, b, c, d, e, f]) (fun _ _ _ _ _ => trivial)
    (fun done q rest ρ S e ⟨g, cs, s, a, b, c, d, e1, f, h, e2, e3⟩ => by
      subst e2 e3
      obtain ⟨cs', s', a', b', c', d', e', f', k1, k2⟩ := bn_run (g q List.mem_cons_self) hp h (some (.v (.fl (ns.map D.int)))) a b c d e1 f
      exact ⟨.nx, _, _, k1, .inl rfl, fun q hq => g q (List.mem_cons_of_mem _ hq), cs', s', a', b', c', d', e', f', k2, rfl, rfl⟩)
    (ρ := [some (.v (.fl (ns.map D.int))), some (.ref 1), some (.v (.int p)), none, none, none, none, none, none]) (S := stt cs3 s3) ⟨fun q hq => by
      simp only [List.mem_cons, List.not_mem_nil, or_false] at hq
      rcases hq with e | e | e <;> subst e
      · unfold okn; omega
      · unfold okn; omega
      · exact hm, cs3, s3, none, none, none, none, none, none, hs3, rfl, rfl⟩
  obtain ⟨ρ', S', k1, _, cs4, s4, a, b, c, d, e, f, _, rfl, rfl⟩ := lp
  refine ⟨stt cs4 s4, ?_⟩
  unfold f_law defn
  rw [b_law_eq]
  have et : toDs ([(1 + r), (p : Int), m].map fun i => W.v (.int i)) = some [.int (1 + r), .int (p : Int), .int m] := rfl
  simp only [List.map_cons, List.map_nil] at hmenu et k1 hitm
  simp [h1, oneR, h2, e1, e2, e3, truF, LIM, hmenu, hitm, k1]
end Q58
open PySem PySem.W PySem.Calls PyProof.Rows in
set_option maxHeartbeats 0 in
theorem PySem.Challenge.cw_fareyhouse_k58_matrices_of_primes_and_im_holds : PySem.Challenge.rw_fareyhouse_k58_matrices_of_primes_and_im.Holds := by
  w_on; o_law
  refine HandSHeadRun.head_imp (r := OpenLaw.row PySem.Challenge.rw_fareyhouse_k58_matrices_of_primes_and_im) (q := view (OpenLaw.row PySem.Challenge.rw_fareyhouse_k58_matrices_of_primes_and_im).prog [0, 20]) (H := Q58.hk) (ob := Q58.ob) (M := 3000) (loose := Q58.loose) (d := HandSHeadRun.topDef (OpenLaw.row PySem.Challenge.rw_fareyhouse_k58_matrices_of_primes_and_im).prog 20) (kwd := []) Q58.ob_eq
    Q58.run (by kernel_rfl) (by kernel_rfl) (by kernel_rfl) (by rfl) (by first | assumption | decide +kernel) (by decide +kernel) ⟨rfl, rfl, rfl, rfl, rfl, by decide +kernel⟩ ?hw ?hc
  case hw => w_witness2
  case hc =>
    refine L2.walk_ofE (l := PySem.Challenge.rw_fareyhouse_k58_matrices_of_primes_and_im) (n := 63) (k := 6) (x := "script") (CX := L2.CX0) rfl (by decide) (by kernel_rfl) ⟨rfl, by decide, by decide⟩ ?F (fun _ _ _ _ z => z)
    intro w mg fa h Y G hmg0
    obtain ⟨K, KX, g1, c1⟩ := Y
    have hmg : mg ("law" : PySem.Str) = some (.ref fa) := by
      have e : (HandSHeadRun.topDef (OpenLaw.row PySem.Challenge.rw_fareyhouse_k58_matrices_of_primes_and_im).prog 20).name = ("law" : PySem.Str) := by kernel_rfl
      rw [← e]; exact hmg0
    have c : Q58.Cn K mg := ⟨c1, g1, h, KX, G⟩
    have e := hmg.symm.trans c.gl_law
    cases e
    obtain ⟨fd, F0⟩ := c1.def_ 16 (d := Q58.dd ("law", 20)) rfl
    have F : L2.FunD K "law" "law" (L2.defArgs (Q58.top 20)) (L2.defBody (Q58.top 20)) (L2.defScope (Q58.top 20)) [] [] (He.ga K "law") fd := F0
    have b := L2.FunD.bindsA (ps := ["script"]) F fun _ _ _ _ _ _ us hl => match us, hl with | [_], _ => rfl
    refine ⟨K, fd, Fy.spM K 1 Q58.f_law, KX, fun s v => b s [v] rfl, fun H a ns hl O hS => Fy.law_start Q58.law_true H a ns hl O hS, fun base _ _ => ?_⟩
    exact Q58.ok_law_fd c fd F
