import PyProof.Rows.All
import Wide.All
import OpenK.AllK
import Wide.FinOn
import HandS.ForMost
import HandS.HeadHook2
import HandS.HeadEnd
import HandS.Head2
import HandS.IsInst
import HandS.TupAny
import HandS.TupMul
import HandS.Wide
import HandS.Deep
import HandS.WideBits
import HandS.Style
import HandS.Zip
import KE.GoesMore
import KE.GoesEnum
import HandS.TryOnly
import HandS.Defaults
import KE.KRevSl
import HandS.Set
import HandS.SetFor
import HandS.Strs
import HandS.Iter
import KE.DataMinMax
import PySem.Challenge.RW_powerrows_k07_needless_elements_and_lean
set_option Elab.async false
set_option linter.all false
set_option maxRecDepth 100000
set_option maxHeartbeats 4000000

/-! En: a small machine of plain values beside the hand layer. D: values; lists and dicts stand in a store by number. What an expression does is a plain function (ME); the rules pm_.. say that the text does just this. -/
namespace En
open PySem L2

inductive D where
  | non | bl (b : Bool) | int (i : Int) | str (x : Str) | tup (xs : List D) | rol (xs : List D) | loc (i : Nat)
inductive C where
  | lst (xs : List D)
  | dct (kvs : List (Key × D))
abbrev Sto := List C
inductive R (α : Type) where
  | ok (a : α) (S : Sto)
  | bad
abbrev Env := List (Option D)
abbrev ME := Env → Sto → R D
def R.bind {α β : Type} (r : R α) (f : α → Sto → R β) : R β := match r with
  | .ok a S => f a S
  | .bad => .bad
theorem R.bind_ok {α β : Type} {r : R α} {f : α → Sto → R β} {b : β} {S' : Sto} (h : r.bind f = .ok b S') : ∃ a S, r = .ok a S ∧ f a S = .ok b S' := by
  cases r with
  | ok a S => exact ⟨a, S, rfl, h⟩
  | bad => cases h

/-! ### what a value stands for -/
mutual
def Rep (K : PySem.W.Frag) (μ : List Addr) (H : Hp) : D → V → Prop
  | .non, v => v = .non
  | .bl b, v => v = .bl b
  | .int i, v => v = .int i
  | .str x, v => v = .str x
  | .tup ds, v => ∃ a vs, v = .ref a ∧ SqT K H a vs ∧ Reps K μ H ds vs
  | .rol ds, v => ∃ a vs, v = .ref a ∧ ((∃ o, H a = some (.frz o (.lst vs))) ∨ ∃ (o : Obj) (its : Array Value) (n : Nat), K.lookup a = some o ∧ o.cls = .type "list" ∧ o.dict = none ∧ o.data = .seq its n ∧ its.size ≤ sizeLine ∧ Vals vs its.toList) ∧ Reps K μ H ds vs
  | .loc i, v => ∃ a, μ[i]? = some a ∧ v = .ref a
def Reps (K : PySem.W.Frag) (μ : List Addr) (H : Hp) : List D → List V → Prop
  | [], vs => vs = []
  | d :: ds, vs => ∃ v r, vs = v :: r ∧ Rep K μ H d v ∧ Reps K μ H ds r
end
def KReps (K : PySem.W.Frag) (μ : List Addr) (H : Hp) : List (Key × D) → List (Key × V) → Prop
  | [], vs => vs = []
  | d :: ds, vs => ∃ v r, vs = (d.1, v) :: r ∧ Rep K μ H d.2 v ∧ KReps K μ H ds r
def CellOk (K : PySem.W.Frag) (μ : List Addr) (H : Hp) (a : Addr) : C → Prop
  | .lst ds => ∃ vs, H a = some (.lst vs) ∧ Reps K μ H ds vs
  | .dct kvs => ∃ vs, H a = some (.dK vs) ∧ KReps K μ H kvs vs
structure Rel (K : PySem.W.Frag) (μ : List Addr) (S : Sto) (H : Hp) : Prop where
  len : μ.length = S.length
  nd : μ.Nodup
  cell : ∀ (i : Nat) (c : C) (a : Addr), S[i]? = some c → μ[i]? = some a → CellOk K μ H a c
/-- behind a step: new numbers, what is not numbered stays -/
structure After (μ : List Addr) (H : Hp) (μ' : List Addr) (H' : Hp) : Prop where
  pre : ∃ t, μ' = μ ++ t
  fr : ∀ a o, H a = some o → a ∉ μ → H' a = some o
  nw : ∀ a ∈ μ', a ∉ μ → H a = none
theorem After.refl {μ : List Addr} {H : Hp} : After μ H μ H := ⟨⟨[], by simp⟩, fun _ _ h _ => h, fun a h n => absurd h n⟩
theorem After.sub {μ μ' : List Addr} {H H' : Hp} (a : After μ H μ' H') : ∀ x ∈ μ, x ∈ μ' := fun x h => by
  obtain ⟨t, rfl⟩ := a.pre
  exact List.mem_append_left _ h
theorem After.trans {μ μ1 μ2 : List Addr} {H H1 H2 : Hp} (a : After μ H μ1 H1) (b : After μ1 H1 μ2 H2) : After μ H μ2 H2 where
  pre := by
    obtain ⟨t, e⟩ := a.pre
    obtain ⟨u, f⟩ := b.pre
    exact ⟨t ++ u, by rw [f, e, List.append_assoc]⟩
  fr := fun x o h n => b.fr x o (a.fr x o h n) fun m => by
    have := a.nw x m n
    rw [h] at this; cases this
  nw := fun x h n => by
    by_cases m : x ∈ μ1
    · exact a.nw x m n
    · cases q : H x with
      | none => rfl
      | some o =>
        have := b.nw x h m
        rw [a.fr x o q n] at this; cases this
theorem After.get {μ μ' : List Addr} {H H' : Hp} (a : After μ H μ' H') {i : Nat} {x : Addr} (h : μ[i]? = some x) : μ'[i]? = some x := by
  obtain ⟨t, rfl⟩ := a.pre
  rw [List.getElem?_append_left (List.getElem?_eq_some_iff.mp h).1]; exact h
theorem After.new {μ : List Addr} {H : Hp} {p : Addr} {o : HO} (h : H p = none) : After μ H μ (upd H p o) :=
  ⟨⟨[], by simp⟩, fun a u e _ => by rw [upd_ne (ne_of_none e h)]; exact e, fun a h n => absurd h n⟩
theorem After.newLoc {μ : List Addr} {H : Hp} {p : Addr} {o : HO} (h : H p = none) : After μ H (μ ++ [p]) (upd H p o) :=
  ⟨⟨[p], rfl⟩, fun a u e _ => by rw [upd_ne (ne_of_none e h)]; exact e, fun a m n => by
    rcases List.mem_append.mp m with q | q
    · exact absurd q n
    · rw [List.mem_singleton.mp q]; exact h⟩
theorem After.mut {μ : List Addr} {H : Hp} {p : Addr} {o : HO} (h : p ∈ μ) : After μ H μ (upd H p o) :=
  ⟨⟨[], by simp⟩, fun a u e n => by rw [upd_ne (fun z => n (by rw [z]; exact h))]; exact e, fun a h n => absurd h n⟩

section
variable {K : PySem.W.Frag} {μ μ' : List Addr} {H H' : Hp} {S S' : Sto}
theorem Rel.inn (r : Rel K μ S H) {a : Addr} (h : a ∈ μ) : (∃ vs, H a = some (.lst vs)) ∨ ∃ vs, H a = some (.dK vs) := by
  obtain ⟨i, hi⟩ := List.getElem?_of_mem h
  have hl : i < S.length := by rw [← r.len]; exact (List.getElem?_eq_some_iff.mp hi).1
  have c := r.cell i _ a (List.getElem?_eq_getElem hl) hi
  cases q : S[i] with
  | lst ds => rw [q] at c; obtain ⟨vs, e, _⟩ := c; exact .inl ⟨vs, e⟩
  | dct ds => rw [q] at c; obtain ⟨vs, e, _⟩ := c; exact .inr ⟨vs, e⟩
theorem Rel.noTup (r : Rel K μ S H) {a : Addr} {xs : List V} (h : Rd H a (.tup xs)) : a ∉ μ := fun m => by
  rcases r.inn m with ⟨vs, e⟩ | ⟨vs, e⟩ <;> rcases h with q | ⟨o, q⟩ <;> (rw [e] at q; cases q)
theorem Rel.noFrz (r : Rel K μ S H) {a : Addr} {o : Obj} {u : HO} (h : H a = some (.frz o u)) : a ∉ μ := fun m => by
  rcases r.inn m with ⟨vs, e⟩ | ⟨vs, e⟩ <;> (rw [e] at h; cases h)
mutual
theorem Rep.mono (r : Rel K μ S H) (a : After μ H μ' H') : ∀ {d : D} {v : V}, Rep K μ H d v → Rep K μ' H' d v
  | .non, v, h => by simpa only [Rep] using h
  | .bl b, v, h => by simpa only [Rep] using h
  | .int i, v, h => by simpa only [Rep] using h
  | .str x, v, h => by simpa only [Rep] using h
  | .tup ds, v, h => by
    simp only [Rep] at h ⊢
    obtain ⟨p, vs, e, hs, q⟩ := h
    refine ⟨p, vs, e, ?_, Reps.mono r a q⟩
    rcases hs with hs | hs
    · refine .inl ?_
      have n := r.noTup hs
      rcases hs with hs | ⟨o, hs⟩
      · exact .inl (a.fr _ _ hs n)
      · exact .inr ⟨o, a.fr _ _ hs n⟩
    · exact .inr hs
  | .rol ds, v, h => by
    simp only [Rep] at h ⊢
    obtain ⟨p, vs, e, hs, q⟩ := h
    refine ⟨p, vs, e, ?_, Reps.mono r a q⟩
    rcases hs with ⟨o, hs⟩ | hs
    · exact .inl ⟨o, a.fr _ _ hs (r.noFrz hs)⟩
    · exact .inr hs
  | .loc i, v, h => by
    simp only [Rep] at h ⊢
    obtain ⟨p, e, q⟩ := h
    exact ⟨p, a.get e, q⟩
theorem Reps.mono (r : Rel K μ S H) (a : After μ H μ' H') : ∀ {ds : List D} {vs : List V}, Reps K μ H ds vs → Reps K μ' H' ds vs
  | [], vs, h => by simpa only [Reps] using h
  | d :: ds, vs, h => by
    simp only [Reps] at h ⊢
    obtain ⟨v, q, e, h1, h2⟩ := h
    exact ⟨v, q, e, Rep.mono r a h1, Reps.mono r a h2⟩
end
theorem KReps.mono (r : Rel K μ S H) (a : After μ H μ' H') : ∀ {ds : List (Key × D)} {vs : List (Key × V)}, KReps K μ H ds vs → KReps K μ' H' ds vs
  | [], vs, h => by simpa only [KReps] using h
  | d :: ds, vs, h => by
    simp only [KReps] at h ⊢
    obtain ⟨v, q, e, h1, h2⟩ := h
    exact ⟨v, q, e, Rep.mono r a h1, KReps.mono r a h2⟩
theorem Reps.length : ∀ {ds : List D} {vs : List V}, Reps K μ H ds vs → vs.length = ds.length
  | [], vs, h => by simp only [Reps] at h; rw [h]; rfl
  | d :: ds, vs, h => by
    simp only [Reps] at h
    obtain ⟨v, q, e, _, h2⟩ := h
    rw [e, List.length_cons, List.length_cons, Reps.length h2]
theorem Reps.get : ∀ {ds : List D} {vs : List V} {i : Nat} {d : D}, Reps K μ H ds vs → ds[i]? = some d → ∃ v, vs[i]? = some v ∧ Rep K μ H d v
  | [], _, _, _, _, e => by simp at e
  | d :: ds, vs, 0, x, h, e => by
    simp only [Reps] at h
    obtain ⟨v, q, rfl, h1, _⟩ := h
    simp at e; subst e
    exact ⟨v, rfl, h1⟩
  | d :: ds, vs, i + 1, x, h, e => by
    simp only [Reps] at h
    obtain ⟨v, q, rfl, _, h2⟩ := h
    obtain ⟨w, h3, h4⟩ := Reps.get (i := i) h2 (by simpa using e)
    exact ⟨w, by simpa using h3, h4⟩
theorem Reps.getV : ∀ {ds : List D} {vs : List V} {i : Nat} {v : V}, Reps K μ H ds vs → vs[i]? = some v → ∃ d, ds[i]? = some d ∧ Rep K μ H d v := fun {ds vs i v} h e => by
  have hi : i < ds.length := by rw [← h.length]; exact (List.getElem?_eq_some_iff.mp e).1
  obtain ⟨w, h1, h2⟩ := Reps.get h (List.getElem?_eq_getElem hi)
  rw [e] at h1; cases h1
  exact ⟨_, List.getElem?_eq_getElem hi, h2⟩
theorem Reps.append : ∀ {ds es : List D} {vs ws : List V}, Reps K μ H ds vs → Reps K μ H es ws → Reps K μ H (ds ++ es) (vs ++ ws)
  | [], _, vs, ws, h, g => by simp only [Reps] at h; subst h; exact g
  | d :: ds, es, vs, ws, h, g => by
    simp only [Reps] at h
    obtain ⟨v, q, rfl, h1, h2⟩ := h
    show Reps K μ H (d :: (ds ++ es)) (v :: (q ++ ws))
    simp only [Reps]
    exact ⟨v, _, rfl, h1, Reps.append h2 g⟩
theorem Reps.cons {d : D} {ds : List D} {v : V} {vs : List V} (h : Rep K μ H d v) (g : Reps K μ H ds vs) : Reps K μ H (d :: ds) (v :: vs) := by
  simp only [Reps]
  exact ⟨v, vs, rfl, h, g⟩
theorem Reps.nil : Reps K μ H [] [] := by simp only [Reps]
theorem Reps.take : ∀ (n : Nat) {ds : List D} {vs : List V}, Reps K μ H ds vs → Reps K μ H (ds.take n) (vs.take n)
  | 0, _, _, _ => by rw [List.take_zero, List.take_zero]; exact Reps.nil
  | n + 1, [], vs, h => by simp only [Reps] at h; subst h; exact Reps.nil
  | n + 1, d :: ds, vs, h => by
    simp only [Reps] at h
    obtain ⟨v, q, rfl, h1, h2⟩ := h
    exact Reps.cons h1 (Reps.take n h2)
theorem Reps.drop : ∀ (n : Nat) {ds : List D} {vs : List V}, Reps K μ H ds vs → Reps K μ H (ds.drop n) (vs.drop n)
  | 0, _, _, h => h
  | n + 1, [], vs, h => by simp only [Reps] at h; subst h; exact Reps.nil
  | n + 1, d :: ds, vs, h => by
    simp only [Reps] at h
    obtain ⟨v, q, rfl, h1, h2⟩ := h
    exact Reps.drop n h2
theorem Reps.set : ∀ {ds : List D} {vs : List V} (i : Nat) {d : D} {v : V}, Reps K μ H ds vs → Rep K μ H d v → Reps K μ H (ds.set i d) (vs.set i v)
  | [], vs, _, _, _, h, _ => by simp only [Reps] at h; subst h; exact Reps.nil
  | d :: ds, vs, 0, _, _, h, g => by
    simp only [Reps] at h
    obtain ⟨v, q, rfl, h1, h2⟩ := h
    exact Reps.cons g h2
  | d :: ds, vs, i + 1, _, _, h, g => by
    simp only [Reps] at h
    obtain ⟨v, q, rfl, h1, h2⟩ := h
    exact Reps.cons h1 (Reps.set i h2 g)
theorem Reps.reverse : ∀ {ds : List D} {vs : List V}, Reps K μ H ds vs → Reps K μ H ds.reverse vs.reverse
  | [], vs, h => by simp only [Reps] at h; subst h; exact Reps.nil
  | d :: ds, vs, h => by
    simp only [Reps] at h
    obtain ⟨v, q, rfl, h1, h2⟩ := h
    rw [List.reverse_cons, List.reverse_cons]
    exact (Reps.reverse h2).append (Reps.cons h1 Reps.nil)

/-! ### the store changes -/
theorem Rel.push (r : Rel K μ S H) {p : Addr} {c : C} {o : HO} (h : H p = none) (hc : CellOk K (μ ++ [p]) (upd H p o) p c) : Rel K (μ ++ [p]) (S ++ [c]) (upd H p o) where
  len := by simp [r.len]
  nd := by
    refine List.nodup_append.mpr ⟨r.nd, by simp, fun a ha b hb e => ?_⟩
    rw [List.mem_singleton.mp hb] at e
    subst e
    rcases r.inn ha with ⟨vs, q⟩ | ⟨vs, q⟩ <;> (rw [h] at q; cases q)
  cell := fun i c' a h1 h2 => by
    by_cases hi : i < S.length
    · rw [List.getElem?_append_left hi] at h1
      rw [List.getElem?_append_left (by rw [r.len]; exact hi)] at h2
      have k := r.cell i c' a h1 h2
      have A : After μ H (μ ++ [p]) (upd H p o) := After.newLoc h
      have ne : a ≠ p := fun z => by
        subst z
        rcases r.inn (List.mem_of_getElem? h2) with ⟨vs, q⟩ | ⟨vs, q⟩ <;> (rw [h] at q; cases q)
      cases c' with
      | lst ds => obtain ⟨vs, e, g⟩ := k; exact ⟨vs, by rw [upd_ne ne]; exact e, g.mono r A⟩
      | dct ds => obtain ⟨vs, e, g⟩ := k; exact ⟨vs, by rw [upd_ne ne]; exact e, g.mono r A⟩
    · have hl : i < (S ++ [c]).length := (List.getElem?_eq_some_iff.mp h1).1
      have e : i = S.length := by simp at hl; omega
      subst e
      rw [List.getElem?_append_right (Nat.le_refl _), Nat.sub_self] at h1
      rw [List.getElem?_append_right (by rw [r.len]; exact Nat.le_refl _), r.len, Nat.sub_self] at h2
      simp at h1 h2
      subst h1 h2
      exact hc
theorem Rel.put (r : Rel K μ S H) {p : Addr} {j : Nat} {c : C} {o : HO} (hj : μ[j]? = some p) (hc : CellOk K μ (upd H p o) p c) : Rel K μ (S.set j c) (upd H p o) where
  len := by simp [r.len]
  nd := r.nd
  cell := fun i c' a h1 h2 => by
    by_cases hi : i = j
    · subst hi
      rw [hj] at h2; cases h2
      have hl : i < S.length := by rw [← r.len]; exact (List.getElem?_eq_some_iff.mp hj).1
      rw [List.getElem?_set_self hl] at h1
      cases h1
      exact hc
    · rw [List.getElem?_set_ne (Ne.symm hi)] at h1
      have ne : a ≠ p := fun z => by
        subst z
        obtain ⟨l1, e1⟩ := List.getElem?_eq_some_iff.mp h2
        obtain ⟨l2, e2⟩ := List.getElem?_eq_some_iff.mp hj
        exact hi ((List.getElem_inj r.nd).mp (e1.trans e2.symm))
      have A : After μ H μ (upd H p o) := After.mut (List.mem_of_getElem? hj)
      have k := r.cell i c' a h1 h2
      cases c' with
      | lst ds => obtain ⟨vs, e, g⟩ := k; exact ⟨vs, by rw [upd_ne ne]; exact e, g.mono r A⟩
      | dct ds => obtain ⟨vs, e, g⟩ := k; exact ⟨vs, by rw [upd_ne ne]; exact e, g.mono r A⟩
theorem Rel.keep (r : Rel K μ S H) {p : Addr} {o : HO} (h : H p = none) : Rel K μ S (upd H p o) where
  len := r.len
  nd := r.nd
  cell := fun i c' a h1 h2 => by
    have A : After μ H μ (upd H p o) := After.new h
    have ne : a ≠ p := fun z => by
      subst z
      rcases r.inn (List.mem_of_getElem? h2) with ⟨vs, q⟩ | ⟨vs, q⟩ <;> (rw [h] at q; cases q)
    have k := r.cell i c' a h1 h2
    cases c' with
    | lst ds => obtain ⟨vs, e, g⟩ := k; exact ⟨vs, by rw [upd_ne ne]; exact e, g.mono r A⟩
    | dct ds => obtain ⟨vs, e, g⟩ := k; exact ⟨vs, by rw [upd_ne ne]; exact e, g.mono r A⟩
theorem Rel.lst (r : Rel K μ S H) {i : Nat} {ds : List D} {v : V} (h : S[i]? = some (.lst ds)) (hv : Rep K μ H (.loc i) v) : ∃ a vs, v = .ref a ∧ μ[i]? = some a ∧ H a = some (.lst vs) ∧ Reps K μ H ds vs := by
  simp only [Rep] at hv
  obtain ⟨a, e, rfl⟩ := hv
  obtain ⟨vs, h1, h2⟩ := r.cell i _ a h e
  exact ⟨a, vs, rfl, e, h1, h2⟩
theorem Rel.dct (r : Rel K μ S H) {i : Nat} {ds : List (Key × D)} {v : V} (h : S[i]? = some (.dct ds)) (hv : Rep K μ H (.loc i) v) : ∃ a vs, v = .ref a ∧ μ[i]? = some a ∧ H a = some (.dK vs) ∧ KReps K μ H ds vs := by
  simp only [Rep] at hv
  obtain ⟨a, e, rfl⟩ := hv
  obtain ⟨vs, h1, h2⟩ := r.cell i _ a h e
  exact ⟨a, vs, rfl, e, h1, h2⟩

/-! ### slots -/
structure EnvR (K : PySem.W.Frag) (μ : List Addr) (H : Hp) (ρ : Env) (σ : L2.St) : Prop where
  len : ρ.length = σ.length
  get : ∀ (i : Nat) (d : D), ρ[i]? = some (some d) → ∃ v, σ[i]? = some (some v) ∧ Rep K μ H d v
theorem EnvR.mono {ρ : Env} {σ : L2.St} (r : Rel K μ S H) (a : After μ H μ' H') (e : EnvR K μ H ρ σ) : EnvR K μ' H' ρ σ :=
  ⟨e.len, fun i d h => let ⟨v, h1, h2⟩ := e.get i d h; ⟨v, h1, h2.mono r a⟩⟩
theorem EnvR.set {ρ : Env} {σ : L2.St} (e : EnvR K μ H ρ σ) (i : Nat) {d : D} {v : V} (h : Rep K μ H d v) : EnvR K μ H (ρ.set i (some d)) (σ.set i (some v)) := by
  refine ⟨by simp [e.len], fun j x q => ?_⟩
  have hj : j < (ρ.set i (some d)).length := (List.getElem?_eq_some_iff.mp q).1
  rw [List.length_set] at hj
  by_cases hi : i = j
  · subst hi
    rw [List.getElem?_set_self hj] at q
    cases q
    exact ⟨v, by rw [List.getElem?_set_self (by rw [← e.len]; exact hj)], h⟩
  · rw [List.getElem?_set_ne hi] at q ⊢
    exact e.get j x q
def wipeE (ρ : Env) : List Nat → Env
  | [] => ρ
  | v :: vs => (wipeE ρ vs).set v none
theorem EnvR.off {ρ : Env} {σ : L2.St} (e : EnvR K μ H ρ σ) (i : Nat) : EnvR K μ H (ρ.set i none) (σ.set i none) := by
  refine ⟨by simp [e.len], fun j x q => ?_⟩
  have hj : j < (ρ.set i none).length := (List.getElem?_eq_some_iff.mp q).1
  rw [List.length_set] at hj
  by_cases hi : i = j
  · subst hi
    rw [List.getElem?_set_self hj] at q
    cases q
  · rw [List.getElem?_set_ne hi] at q ⊢
    exact e.get j x q
theorem EnvR.wipe {ρ : Env} {σ : L2.St} (e : EnvR K μ H ρ σ) : ∀ vs : List Nat, EnvR K μ H (wipeE ρ vs) (L2.wipe σ vs)
  | [] => e
  | v :: vs => (EnvR.wipe e vs).off v
end

/-! ### the readings -/
/-- what an expression's function gives, for whatever state stands for (ρ, S) -/
def Post (K : PySem.W.Frag) (μ : List Addr) (H : Hp) (d : D) (S' : Sto) (Q : VK) : Prop := ∀ μ' v H', After μ H μ' H' → Rel K μ' S' H' → Rep K μ' H' d v → Q v H'
def tM (K : PySem.W.Frag) (m : ME) : TE := fun σ H Q => ∃ μ S ρ d S', Rel K μ S H ∧ EnvR K μ H ρ σ ∧ m ρ S = .ok d S' ∧ Post K μ H d S' Q
theorem PE.imp {X : Cx} {e : Expr} {t t' : TE} (h : PE X e t) (w : ∀ σ H Q, t' σ H Q → t σ H Q) : PE X e t' := ⟨fun pins s σ H Q I q => h.run pins s σ H Q I (w σ H Q q)⟩
theorem PT.imp {X : Cx} {e : Expr} {t t' : TT} (h : PT X e t) (w : ∀ σ H Q, t' σ H Q → t σ H Q) : PT X e t' := ⟨fun pins s σ H Q I q => h.run pins s σ H Q I (w σ H Q q)⟩
theorem PW.imp {X : Cx} {e : Expr} {t t' : TT} (h : PW X e t) (w : ∀ σ H Q, t' σ H Q → t σ H Q) : PW X e t' := ⟨fun wh pins s σ H Q I q => h.run wh pins s σ H Q I (w σ H Q q)⟩
theorem PS.imp {X : Cx} {e : Stmt} {t t' : TS} (h : PS X e t) (w : ∀ D σ H, t' D σ H → t D σ H) : PS X e t' := ⟨fun pins s σ H D I q => h.run pins s σ H D I (w D σ H q)⟩
theorem PSs.imp {X : Cx} {e : List Stmt} {t t' : TS} (h : PSs X e t) (w : ∀ D σ H, t' D σ H → t D σ H) : PSs X e t' := ⟨fun pins s σ H D I q => h.run pins s σ H D I (w D σ H q)⟩
theorem PA.imp {X : Cx} {e : List Expr} {t t' : TA} (h : PA X e t) (w : ∀ σ H Q, t' σ H Q → t σ H Q) : PA X e t' := ⟨fun pos pins s σ H Q I q => h.run pos pins s σ H Q I (w σ H Q q)⟩
abbrev PM (X : Cx) (e : Expr) (m : ME) : Prop := PE X e (tM X.K m)
/-- arguments -/
abbrev MA := Env → Sto → R (List D)
def tMA (K : PySem.W.Frag) (m : MA) : TA := fun σ H Q => ∃ μ S ρ ds S', Rel K μ S H ∧ EnvR K μ H ρ σ ∧ m ρ S = .ok ds S' ∧ ∀ μ' vs H', After μ H μ' H' → Rel K μ' S' H' → Reps K μ' H' ds vs → Q vs H'
abbrev PMA (X : Cx) (es : List Expr) (m : MA) : Prop := PA X es (tMA X.K m)
/-- a test -/
abbrev MT := Env → Sto → R Bool
def tMT (K : PySem.W.Frag) (m : MT) : TT := fun σ H Q => ∃ μ S ρ b S', Rel K μ S H ∧ EnvR K μ H ρ σ ∧ m ρ S = .ok b S' ∧ ∀ μ' H', After μ H μ' H' → Rel K μ' S' H' → Q b H'
abbrev PMT (X : Cx) (e : Expr) (m : MT) : Prop := PT X e (tMT X.K m)
abbrev PMW (X : Cx) (e : Expr) (m : MT) : Prop := PW X e (tMT X.K m)
/-- statements -/
inductive Out where
  | next (ρ : Env) | ret (d : D) | brk (ρ : Env) | cont (ρ : Env)
abbrev MS := Env → Sto → R Out
def OutOk (K : PySem.W.Frag) (μ : List Addr) (H : Hp) (S' : Sto) (E : Ends) : Out → Prop
  | .next ρ => ∀ μ' σ' H', After μ H μ' H' → Rel K μ' S' H' → EnvR K μ' H' ρ σ' → E.nx σ' H'
  | .brk ρ => ∀ μ' σ' H', After μ H μ' H' → Rel K μ' S' H' → EnvR K μ' H' ρ σ' → E.bk σ' H'
  | .cont ρ => ∀ μ' σ' H', After μ H μ' H' → Rel K μ' S' H' → EnvR K μ' H' ρ σ' → E.ct σ' H'
  | .ret d => ∀ μ' v H', After μ H μ' H' → Rel K μ' S' H' → Rep K μ' H' d v → E.rt v H'
def tMS (K : PySem.W.Frag) (m : MS) : TS := fun E σ H => ∃ μ S ρ o S', Rel K μ S H ∧ EnvR K μ H ρ σ ∧ m ρ S = .ok o S' ∧ OutOk K μ H S' E o
abbrev PMS (X : Cx) (st : Stmt) (m : MS) : Prop := PS X st (tMS X.K m)
abbrev PMSs (X : Cx) (st : List Stmt) (m : MS) : Prop := PSs X st (tMS X.K m)
theorem OutOk.after {K : PySem.W.Frag} {μ μ1 : List Addr} {H H1 : Hp} {S' : Sto} {E : Ends} (a : After μ H μ1 H1) : ∀ {o : Out}, OutOk K μ H S' E o → OutOk K μ1 H1 S' E o
  | .next ρ, h => fun μ' σ' H' b => h μ' σ' H' (a.trans b)
  | .brk ρ, h => fun μ' σ' H' b => h μ' σ' H' (a.trans b)
  | .cont ρ, h => fun μ' σ' H' b => h μ' σ' H' (a.trans b)
  | .ret d, h => fun μ' σ' H' b => h μ' σ' H' (a.trans b)
theorem Post.after {K : PySem.W.Frag} {μ μ1 : List Addr} {H H1 : Hp} {d : D} {S' : Sto} {Q : VK} (a : After μ H μ1 H1) (h : Post K μ H d S' Q) : Post K μ1 H1 d S' Q := fun μ' v H' b => h μ' v H' (a.trans b)
/-- one step, then the rest -/
theorem tM_then {K : PySem.W.Frag} {m : ME} {σ : L2.St} {H : Hp} {Q : VK} {μ : List Addr} {S S1 : Sto} {ρ : Env} {d : D} (r : Rel K μ S H) (e : EnvR K μ H ρ σ) (h : m ρ S = .ok d S1)
    (k : ∀ μ1 v H1, After μ H μ1 H1 → Rel K μ1 S1 H1 → EnvR K μ1 H1 ρ σ → Rep K μ1 H1 d v → Q v H1) : tM K m σ H Q :=
  ⟨μ, S, ρ, d, S1, r, e, h, fun μ1 v H1 a r1 q => k μ1 v H1 a r1 (e.mono r a) q⟩
theorem tMA_then {K : PySem.W.Frag} {m : MA} {σ : L2.St} {H : Hp} {Q : List V → Hp → Prop} {μ : List Addr} {S S1 : Sto} {ρ : Env} {ds : List D} (r : Rel K μ S H) (e : EnvR K μ H ρ σ) (h : m ρ S = .ok ds S1)
    (k : ∀ μ1 vs H1, After μ H μ1 H1 → Rel K μ1 S1 H1 → EnvR K μ1 H1 ρ σ → Reps K μ1 H1 ds vs → Q vs H1) : tMA K m σ H Q :=
  ⟨μ, S, ρ, ds, S1, r, e, h, fun μ1 v H1 a r1 q => k μ1 v H1 a r1 (e.mono r a) q⟩
theorem tMT_then {K : PySem.W.Frag} {m : MT} {σ : L2.St} {H : Hp} {Q : Bool → Hp → Prop} {μ : List Addr} {S S1 : Sto} {ρ : Env} {b : Bool} (r : Rel K μ S H) (e : EnvR K μ H ρ σ) (h : m ρ S = .ok b S1)
    (k : ∀ μ1 H1, After μ H μ1 H1 → Rel K μ1 S1 H1 → EnvR K μ1 H1 ρ σ → Q b H1) : tMT K m σ H Q :=
  ⟨μ, S, ρ, b, S1, r, e, h, fun μ1 H1 a r1 => k μ1 H1 a r1 (e.mono r a)⟩
end En
namespace En
open PySem L2

/-! ### new objects -/
abbrev lim : Nat := 16777216
theorem lim_line {n : Nat} (h : n ≤ lim) : n ≤ sizeLine := by rw [sizeLine_eq]; exact h
theorem lim_lt {n : Nat} (h : n < lim) : n < sizeLine := by rw [sizeLine_eq]; exact h
section
variable {K : PySem.W.Frag} {μ μ' : List Addr} {H H' : Hp} {S S' : Sto} {ds : List D} {vs : List V} {p : Addr} {Q : VK}
theorem newTup (r : Rel K μ S H) (q : Reps K μ H ds vs) (h : H p = none) (k : Post K μ H (.tup ds) S Q) : Q (.ref p) (upd H p (.tup vs)) := by
  have A : After μ H μ (upd H p (.tup vs)) := After.new h
  refine k μ _ _ A (r.keep h) ?_
  simp only [Rep]
  exact ⟨p, vs, rfl, SqT.of upd_same, q.mono r A⟩
theorem newLst (r : Rel K μ S H) (q : Reps K μ H ds vs) (h : H p = none) (k : Post K μ H (.loc S.length) (S ++ [.lst ds]) Q) : Q (.ref p) (upd H p (.lst vs)) := by
  have A : After μ H (μ ++ [p]) (upd H p (.lst vs)) := After.newLoc h
  refine k (μ ++ [p]) _ _ A (r.push h ⟨vs, upd_same, q.mono r A⟩) ?_
  simp only [Rep]
  exact ⟨p, by rw [← r.len]; simp, rfl⟩
mutual
theorem Rep.wide (t : List Addr) : ∀ {d : D} {v : V}, Rep K μ H d v → Rep K (μ ++ t) H d v
  | .non, v, h => by simpa only [Rep] using h
  | .bl b, v, h => by simpa only [Rep] using h
  | .int i, v, h => by simpa only [Rep] using h
  | .str x, v, h => by simpa only [Rep] using h
  | .tup ds, v, h => by
    simp only [Rep] at h ⊢
    obtain ⟨p, vs, e, hs, q⟩ := h
    exact ⟨p, vs, e, hs, Reps.wide t q⟩
  | .rol ds, v, h => by
    simp only [Rep] at h ⊢
    obtain ⟨p, vs, e, hs, q⟩ := h
    exact ⟨p, vs, e, hs, Reps.wide t q⟩
  | .loc i, v, h => by
    simp only [Rep] at h ⊢
    obtain ⟨p, e, q⟩ := h
    exact ⟨p, by rw [List.getElem?_append_left (List.getElem?_eq_some_iff.mp e).1]; exact e, q⟩
theorem Reps.wide (t : List Addr) : ∀ {ds : List D} {vs : List V}, Reps K μ H ds vs → Reps K (μ ++ t) H ds vs
  | [], vs, h => by simpa only [Reps] using h
  | d :: ds, vs, h => by
    simp only [Reps] at h ⊢
    obtain ⟨v, q, e, h1, h2⟩ := h
    exact ⟨v, q, e, Rep.wide t h1, Reps.wide t h2⟩
end
theorem KReps.wide (t : List Addr) : ∀ {ds : List (Key × D)} {vs : List (Key × V)}, KReps K μ H ds vs → KReps K (μ ++ t) H ds vs
  | [], vs, h => by simpa only [KReps] using h
  | d :: ds, vs, h => by
    simp only [KReps] at h ⊢
    obtain ⟨v, q, e, h1, h2⟩ := h
    exact ⟨v, q, e, Rep.wide t h1, KReps.wide t h2⟩
theorem CellOk.wide (t : List Addr) {a : Addr} {c : C} (h : CellOk K μ H a c) : CellOk K (μ ++ t) H a c := by
  cases c with
  | lst ds => obtain ⟨vs, e, g⟩ := h; exact ⟨vs, e, g.wide t⟩
  | dct ds => obtain ⟨vs, e, g⟩ := h; exact ⟨vs, e, g.wide t⟩
/-- an object that stood unnumbered gets the next number -/
theorem Rel.adopt {c : C} (r : Rel K μ S H) (q : CellOk K μ H p c) (n : p ∉ μ) : Rel K (μ ++ [p]) (S ++ [c]) H where
  len := by simp [r.len]
  nd := by
    refine List.nodup_append.mpr ⟨r.nd, by simp, fun a ha b hb e => ?_⟩
    rw [List.mem_singleton.mp hb] at e
    subst e
    exact n ha
  cell := fun i c' a h1 h2 => by
    by_cases hi : i < S.length
    · rw [List.getElem?_append_left hi] at h1
      rw [List.getElem?_append_left (by rw [r.len]; exact hi)] at h2
      exact (r.cell i c' a h1 h2).wide [p]
    · have hl : i < (S ++ [c]).length := (List.getElem?_eq_some_iff.mp h1).1
      have e : i = S.length := by simp at hl; omega
      subst e
      rw [List.getElem?_append_right (Nat.le_refl _), Nat.sub_self] at h1
      rw [List.getElem?_append_right (by rw [r.len]; exact Nat.le_refl _), r.len, Nat.sub_self] at h2
      simp at h1 h2
      subst h1 h2
      exact q.wide [p]
end

/-! ### operations by values -/
abbrev F2 := D → D → Sto → R D
abbrev F1 := D → Sto → R D
abbrev MF := List D → Sto → R D
def rM2 (K : PySem.W.Frag) (g : F2) : R2 := fun x y H Q => ∃ μ S a b d S', Rel K μ S H ∧ Rep K μ H a x ∧ Rep K μ H b y ∧ g a b S = .ok d S' ∧ Post K μ H d S' Q
def rM1 (K : PySem.W.Frag) (g : F1) : V → Hp → VK → Prop := fun x H Q => ∃ μ S a d S', Rel K μ S H ∧ Rep K μ H a x ∧ g a S = .ok d S' ∧ Post K μ H d S' Q
def rMC (K : PySem.W.Frag) (g : MF) : List V → Hp → VK → Prop := fun vs H Q => ∃ μ S ds d S', Rel K μ S H ∧ Reps K μ H ds vs ∧ g ds S = .ok d S' ∧ Post K μ H d S' Q
def rMM (K : PySem.W.Frag) (g : D → MF) : V → List V → Hp → VK → Prop := fun x vs H Q => ∃ μ S a ds d S', Rel K μ S H ∧ Rep K μ H a x ∧ Reps K μ H ds vs ∧ g a ds S = .ok d S' ∧ Post K μ H d S' Q
abbrev O2 (X : Cx) (f : Value → Value → Sem Value) (g : F2) : Prop := OpR X f (rM2 X.K g)
abbrev O1 (X : Cx) (f : Value → Sem Value) (g : F1) : Prop := UnR X f (rM1 X.K g)
abbrev OC (X : Cx) (f : Value) (g : MF) : Prop := CallR X f (rMC X.K g)
abbrev OM (X : Cx) (id : String) (g : D → MF) : Prop := MtR X id (rMM X.K g)
theorem OpR.imp {X : Cx} {f : Value → Value → Sem Value} {r r' : R2} (h : OpR X f r) (w : ∀ x y H Q, r' x y H Q → r x y H Q) : OpR X f r' :=
  fun pins s σ H x y v u Q I rx ry q => h pins s σ H x y v u Q I rx ry (w x y H Q q)
theorem UnR.imp {X : Cx} {f : Value → Sem Value} {r r' : V → Hp → VK → Prop} (h : UnR X f r) (w : ∀ x H Q, r' x H Q → r x H Q) : UnR X f r' :=
  fun pins s σ H x v Q I rx q => h pins s σ H x v Q I rx (w x H Q q)
theorem CallR.imp {X : Cx} {f : Value} {r r' : List V → Hp → VK → Prop} (h : CallR X f r) (w : ∀ x H Q, r' x H Q → r x H Q) : CallR X f r' :=
  fun pins s σ H xs us Q I rx q => h pins s σ H xs us Q I rx (w xs H Q q)
theorem MtR.imp {X : Cx} {id : String} {r r' : V → List V → Hp → VK → Prop} (h : MtR X id r) (w : ∀ x xs H Q, r' x xs H Q → r x xs H Q) : MtR X id r' :=
  fun pins s σ H x xs v us Q I rx rs q => h pins s σ H x xs v us Q I rx rs (w x xs H Q q)

section
variable {X : Cx} {e a b c : Expr} {es : List Expr} {m ma mb mc : ME} {mt : MT} {pos : Pos}

/-! ### names, constants -/
def mVar (i : Nat) : ME := fun ρ S => match ρ[i]? with
  | some (some d) => .ok d S
  | _ => .bad
def mC (d : D) : ME := fun _ S => .ok d S
theorem pm_of_var {i : Nat} (h : PE X e (tVar i)) : PM X e (mVar i) := PE.imp h fun σ H Q q => by
  obtain ⟨μ, S, ρ, d, S', r, er, hm, k⟩ := q
  unfold mVar at hm
  split at hm
  · rename_i d' hd
    cases hm
    obtain ⟨v, h1, h2⟩ := er.get i _ hd
    exact ⟨v, h1, k μ v H After.refl r h2⟩
  · cases hm
theorem pm_var (i : Nat) {x : Str} (hN : X.N[i]? = some x := by rfl) (hv : Vis X.env.scope x := by first | exact Or.inl rfl | exact Or.inr (Or.inl rfl) | exact Or.inr (Or.inr rfl)) (hd : (x == ("__debug__" : Str)) = false := by decide)
    (hcd : (x == ("__classdict__" : Str)) = false := by decide) : PM X (.Name x pos) (mVar i) := pm_of_var (pe_var hN hv hd hcd)
/-- a plain value without places -/
def Flat0 : D → V → Prop
  | .non, v => v = .non
  | .bl b, v => v = .bl b
  | .int i, v => v = .int i
  | .str x, v => v = .str x
  | _, _ => False
theorem Flat0.rep {K : PySem.W.Frag} {μ : List Addr} {H : Hp} : ∀ {d : D} {v : V}, Flat0 d v → Rep K μ H d v
  | .non, v, h => by simp only [Rep]; exact h
  | .bl b, v, h => by simp only [Rep]; exact h
  | .int b, v, h => by simp only [Rep]; exact h
  | .str b, v, h => by simp only [Rep]; exact h
  | .tup _, _, h => h.elim
  | .rol _, _, h => h.elim
  | .loc _, _, h => h.elim
theorem pm_of_c {v : V} {d : D} (h : PE X e (tC v)) (f : Flat0 d v) : PM X e (mC d) := PE.imp h fun σ H Q q => by
  obtain ⟨μ, S, ρ, d, S', r, er, hm, k⟩ := q
  cases hm
  exact k μ v H After.refl r f.rep
theorem pm_int {i : Int} {j : Nat} : PM X (.Constant (.int i) j pos) (mC (.int i)) := pm_of_c pe_int rfl
theorem pm_bl {i : Bool} {j : Nat} : PM X (.Constant (.bool i) j pos) (mC (.bl i)) := pm_of_c pe_bl rfl
theorem pm_non {j : Nat} : PM X (.Constant .none j pos) (mC .non) := pm_of_c pe_non rfl
theorem pm_str {x : Str} {j : Nat} : PM X (.Constant (.str x) j pos) (mC (.str x)) := pm_of_c pe_str rfl
/-- a module's constant -/
theorem pm_glob {x : Str} {v : V} {d : D} {u : Value} (hg : Gl X x) (hm : X.mg x = some u) (r : RelV v u) (f : Flat0 d v) (hd : (x == ("__debug__" : Str)) = false := by decide) : PM X (.Name x pos) (mC d) := pm_of_c (pe_glob hg hm r hd) f

/-! ### operators -/
def mBin (g : F2) (ma mb : ME) : ME := fun ρ S => (ma ρ S).bind fun x S1 => (mb ρ S1).bind fun y S2 => g x y S2
def mUn (g : F1) (ma : ME) : ME := fun ρ S => (ma ρ S).bind fun x S1 => g x S1
theorem two_then {K : PySem.W.Frag} {g : F2} {σ : L2.St} {H : Hp} {Q : VK} (h : tM K (mBin g ma mb) σ H Q) : tM K ma σ H fun x H1 => tM K mb σ H1 fun y H2 => rM2 K g x y H2 Q := by
  obtain ⟨μ, S, ρ, d, S', r, er, hm, k⟩ := h
  obtain ⟨d1, S1, h1, hm⟩ := R.bind_ok hm
  obtain ⟨d2, S2, h2, hm⟩ := R.bind_ok hm
  refine tM_then r er h1 fun μ1 x H1 a1 r1 e1 p1 => tM_then r1 e1 h2 fun μ2 y H2 a2 r2 e2 p2 => ?_
  exact ⟨μ2, S2, d1, d2, d, S', r2, p1.mono r1 a2, p2, hm, k.after (a1.trans a2)⟩
theorem pm_bin {op : Operator} {g : F2} (ho : O2 X (binaryOp op) g) (ha : PM X a ma) (hb : PM X b mb) : PM X (.BinOp a op b pos) (mBin g ma mb) := PE.imp (pe_op ho ha hb) fun σ H Q h => two_then h
theorem pm_cmp {op : CmpOp} {g : F2} (ho : O2 X (compareOp op) g) (ha : PM X a ma) (hb : PM X b mb) (hm : behindInMarks op b = false := by first | exact nomark _ | rfl) : PM X (.Compare a [op] [b] pos) (mBin g ma mb) := PE.imp (pe_cmpR ho ha hb hm) fun σ H Q h => two_then h
theorem pm_un {op : UnaryOp} {g : F1} (ho : O1 X (unaryOp op) g) (ha : PM X a ma) : PM X (.UnaryOp op a pos) (mUn g ma) := PE.imp (pe_un ho ha) fun σ H Q h => by
  obtain ⟨μ, S, ρ, d, S', r, er, hm, k⟩ := h
  obtain ⟨d1, S1, h1, hm⟩ := R.bind_ok hm
  exact tM_then r er h1 fun μ1 x H1 a1 r1 e1 p1 => ⟨μ1, S1, d1, d, S', r1, p1, hm, k.after a1⟩
/-- a < b < c -/
def mChain (g g' : F2) (ma mb mc : ME) : ME := fun ρ S => (ma ρ S).bind fun x S1 => (mb ρ S1).bind fun y S2 => (g x y S2).bind fun t S3 => match t with
  | .bl true => (mc ρ S3).bind fun z S4 => (g' y z S4).bind fun w S5 => match w with
    | .bl b => .ok (.bl b) S5
    | _ => .bad
  | .bl false => .ok (.bl false) S3
  | _ => .bad
theorem pm_chain {op op' : CmpOp} {g g' : F2} (ho : O2 X (compareOp op) g) (ho' : O2 X (compareOp op') g') (ha : PM X a ma) (hb : PM X b mb) (hc : PM X c mc)
    (hm : lastMarks [op, op'] [b, c] = false := by with_unfolding_all rfl) : PM X (.Compare a [op, op'] [b, c] pos) (mChain g g' ma mb mc) := PE.imp (pe_chain ho ho' ha hb hc hm) fun σ H Q h => by
  obtain ⟨μ, S, ρ, d, S', r, er, hm, k⟩ := h
  obtain ⟨d1, S1, h1, hm⟩ := R.bind_ok hm
  obtain ⟨d2, S2, h2, hm⟩ := R.bind_ok hm
  obtain ⟨d3, S3, h3, hm⟩ := R.bind_ok hm
  refine tM_then r er h1 fun μ1 x H1 a1 r1 e1 p1 => tM_then r1 e1 h2 fun μ2 y H2 a2 r2 e2 p2 => ?_
  refine ⟨μ2, S2, d1, d2, d3, S3, r2, p1.mono r1 a2, p2, h3, fun μ3 z H3 a3 r3 p3 => ?_⟩
  split at hm
  · simp only [Rep] at p3
    refine ⟨true, p3, ?_⟩
    rw [if_pos rfl]
    obtain ⟨d4, S4, h4, hm⟩ := R.bind_ok hm
    obtain ⟨d5, S5, h5, hm⟩ := R.bind_ok hm
    have p2' := p2.mono r2 a3
    refine tM_then r3 (e2.mono r2 a3) h4 fun μ4 w H4 a4 r4 e4 p4 => ⟨μ4, S4, d2, d4, d5, S5, r4, p2'.mono r3 a4, p4, h5, ?_⟩
    split at hm
    · cases hm
      exact k.after (((a1.trans a2).trans a3).trans a4)
    · cases hm
  · simp only [Rep] at p3
    refine ⟨false, p3, ?_⟩
    rw [if_neg Bool.false_ne_true]
    cases hm
    exact k μ3 _ H3 ((a1.trans a2).trans a3) r3 (by simp only [Rep])
  · cases hm

/-! ### tests -/
def truD : D → Sto → Option Bool
  | .non, _ => some false
  | .bl b, _ => some b
  | .int i, _ => some (i != 0)
  | .str x, _ => if x.length ≤ lim then some ((x.length : Int) != 0) else none
  | .tup ds, _ => some (!ds.isEmpty)
  | .rol ds, _ => some (!ds.isEmpty)
  | .loc i, S => match S[i]? with
    | some (.lst ds) => some (!ds.isEmpty)
    | some (.dct ds) => some (!ds.isEmpty)
    | none => none
def mTru (m : ME) : MT := fun ρ S => (m ρ S).bind fun d S1 => match truD d S1 with
  | some b => .ok b S1
  | none => .bad
def mTst (m : ME) : MT := fun ρ S => (m ρ S).bind fun d S1 => match d with
  | .bl b => .ok b S1
  | _ => .bad
theorem Reps.emp {K : PySem.W.Frag} {μ : List Addr} {H : Hp} {ds : List D} {vs : List V} (h : Reps K μ H ds vs) : (!ds.isEmpty) = !vs.isEmpty := by
  have e := h.length
  cases ds <;> cases vs <;> simp_all
theorem KReps.length {K : PySem.W.Frag} {μ : List Addr} {H : Hp} : ∀ {ds : List (Key × D)} {vs : List (Key × V)}, KReps K μ H ds vs → vs.length = ds.length
  | [], vs, h => by simp only [KReps] at h; rw [h]; rfl
  | d :: ds, vs, h => by
    simp only [KReps] at h
    obtain ⟨v, q, e, _, h2⟩ := h
    rw [e, List.length_cons, List.length_cons, KReps.length h2]
theorem tru_of {K : PySem.W.Frag} {μ : List Addr} {S : Sto} {H : Hp} {d : D} {v : V} {b : Bool} (r : Rel K μ S H) (p : Rep K μ H d v) (h : truD d S = some b) : TruV K v H b := by
  cases d with
  | non => simp only [Rep] at p; subst p; cases h; rfl
  | bl _ => simp only [Rep] at p; subst p; cases h; rfl
  | int _ => simp only [Rep] at p; subst p; cases h; rfl
  | str x =>
    simp only [Rep] at p; subst p
    simp only [truD] at h
    split at h
    · rename_i hl
      cases h
      exact ⟨lim_line hl, rfl⟩
    · cases h
  | tup ds =>
    simp only [Rep] at p
    obtain ⟨a, vs, rfl, hs, q⟩ := p
    cases h
    exact .inr (.inl ⟨vs, hs, q.emp⟩)
  | rol ds =>
    simp only [Rep] at p
    obtain ⟨a, vs, rfl, hs, q⟩ := p
    cases h
    refine .inl ⟨vs, ?_, q.emp⟩
    rcases hs with ⟨o, hs⟩ | hs
    · exact .inl (.inr ⟨o, hs⟩)
    · exact .inr hs
  | loc i =>
    simp only [truD] at h
    split at h
    · rename_i ds hi
      cases h
      obtain ⟨a, vs, rfl, _, hs, q⟩ := r.lst hi p
      exact .inl ⟨vs, SqL.of hs, q.emp⟩
    · rename_i ds hi
      cases h
      obtain ⟨a, vs, rfl, _, hs, q⟩ := r.dct hi p
      have e := q.length
      exact .inr (.inr ⟨vs, hs, by cases ds <;> cases vs <;> simp_all⟩)
    · cases h
theorem pmt_tru (ha : PM X a ma) (he : ∀ whole, isTrue a X.env whole = (do let v ← whole; standAt a.pos; holding [v] (truthy v)) := by intro _; rfl) : PMT X a (mTru ma) := PT.imp (pt_truth ha he) fun σ H Q h => by
  obtain ⟨μ, S, ρ, b, S', r, er, hm, k⟩ := h
  obtain ⟨d1, S1, h1, hm⟩ := R.bind_ok hm
  refine tM_then r er h1 fun μ1 x H1 a1 r1 e1 p1 => ?_
  split at hm
  · rename_i b' hb
    cases hm
    exact ⟨_, tru_of r1 p1 hb, k μ1 H1 a1 r1⟩
  · cases hm
theorem tst_of {σ : L2.St} {H : Hp} {Q : Bool → Hp → Prop} {K : PySem.W.Frag} (h : tMT K (mTst ma) σ H Q) : tM K ma σ H fun x H' => ∃ k, x = .bl k ∧ Q k H' := by
  obtain ⟨μ, S, ρ, b, S', r, er, hm, k⟩ := h
  obtain ⟨d1, S1, h1, hm⟩ := R.bind_ok hm
  refine tM_then r er h1 fun μ1 x H1 a1 r1 e1 p1 => ?_
  split at hm
  · cases hm
    simp only [Rep] at p1
    exact ⟨_, p1, k μ1 H1 a1 r1⟩
  · cases hm
theorem pmt_cmp {op : CmpOp} {g : F2} (ho : O2 X (compareOp op) g) (ha : PM X a ma) (hb : PM X b mb) (hm : behindInMarks op b = false := by first | exact nomark _ | rfl) : PMT X (.Compare a [op] [b] pos) (mTst (mBin g ma mb)) := PT.imp (pt_cmpR ho ha hb hm) fun σ H Q h => two_then (tst_of h)
theorem mTst_chain {g g' : F2} {ρ : Env} {S : Sto} {b : Bool} {S' : Sto} (h : mTst (mChain g g' ma mb mc) ρ S = .ok b S') : mChain g g' ma mb mc ρ S = .ok (.bl b) S' := by
  obtain ⟨d1, S1, h1, hm⟩ := R.bind_ok h
  split at hm
  · cases hm; exact h1
  · cases hm
theorem pmt_chain {op op' : CmpOp} {g g' : F2} (ho : O2 X (compareOp op) g) (ho' : O2 X (compareOp op') g') (ha : PM X a ma) (hb : PM X b mb) (hc : PM X c mc) (hmk : lastMarks [op, op'] [b, c] = false := by with_unfolding_all rfl) : PMT X (.Compare a [op, op'] [b, c] pos) (mTst (mChain g g' ma mb mc)) := PT.imp (pt_chain ho ho' ha hb hc hmk) fun σ H Q h => by
  obtain ⟨μ, S, ρ, bb, S', r, er, hm, k⟩ := h
  have hm := mTst_chain hm
  obtain ⟨d1, S1, h1, hm⟩ := R.bind_ok hm
  obtain ⟨d2, S2, h2, hm⟩ := R.bind_ok hm
  obtain ⟨d3, S3, h3, hm⟩ := R.bind_ok hm
  refine tM_then r er h1 fun μ1 x H1 a1 r1 e1 p1 => tM_then r1 e1 h2 fun μ2 y H2 a2 r2 e2 p2 => ?_
  refine ⟨μ2, S2, d1, d2, d3, S3, r2, p1.mono r1 a2, p2, h3, fun μ3 z H3 a3 r3 p3 => ?_⟩
  split at hm
  · simp only [Rep] at p3
    refine ⟨true, p3, ?_⟩
    rw [if_pos rfl]
    obtain ⟨d4, S4, h4, hm⟩ := R.bind_ok hm
    obtain ⟨d5, S5, h5, hm⟩ := R.bind_ok hm
    have p2' := p2.mono r2 a3
    refine tM_then r3 (e2.mono r2 a3) h4 fun μ4 w H4 a4 r4 e4 p4 => ⟨μ4, S4, d2, d4, d5, S5, r4, p2'.mono r3 a4, p4, h5, fun μ5 w2 H5 a5 r5 p5 => ?_⟩
    split at hm
    · cases hm
      simp only [Rep] at p5
      exact ⟨_, p5, k μ5 H5 ((((a1.trans a2).trans a3).trans a4).trans a5) r5⟩
    · cases hm
  · simp only [Rep] at p3
    refine ⟨false, p3, ?_⟩
    rw [if_neg Bool.false_ne_true]
    cases hm
    exact ⟨false, rfl, k μ3 H3 ((a1.trans a2).trans a3) r3⟩
  · cases hm
def mNotT (m : MT) : MT := fun ρ S => (m ρ S).bind fun b S1 => .ok (!b) S1
def mAndT (m u : MT) : MT := fun ρ S => (m ρ S).bind fun b S1 => if b = true then u ρ S1 else .ok false S1
def mOrT (m u : MT) : MT := fun ρ S => (m ρ S).bind fun b S1 => if b = true then .ok true S1 else u ρ S1
variable {ta tb : MT} {rest : List Expr}
theorem pmt_not (ha : PMT X a ta) : PMT X (.UnaryOp .Not a pos) (mNotT ta) := PT.imp (pt_not ha) fun σ H Q h => by
  obtain ⟨μ, S, ρ, b, S', r, er, hm, k⟩ := h
  obtain ⟨d1, S1, h1, hm⟩ := R.bind_ok hm
  cases hm
  exact ⟨μ, S, ρ, d1, _, r, er, h1, k⟩
theorem pmw_and1 (ha : PMT X a ta) : PMW X (.BoolOp .And [a] pos) ta := pw_and1 ha
theorem pmw_or1 (ha : PMT X a ta) : PMW X (.BoolOp .Or [a] pos) ta := pw_or1 ha
theorem pmw_and (ha : PMT X a ta) (hb : PMW X (.BoolOp .And (b :: rest) pos) tb) : PMW X (.BoolOp .And (a :: b :: rest) pos) (mAndT ta tb) := PW.imp (pw_and ha hb) fun σ H Q h => by
  obtain ⟨μ, S, ρ, bb, S', r, er, hm, k⟩ := h
  obtain ⟨d1, S1, h1, hm⟩ := R.bind_ok hm
  refine tMT_then r er h1 fun μ1 H1 a1 r1 e1 => ?_
  cases d1 with
  | true =>
    rw [if_pos rfl] at hm ⊢
    exact ⟨μ1, S1, ρ, bb, S', r1, e1, hm, fun μ' H' a' => k μ' H' (a1.trans a')⟩
  | false =>
    rw [if_neg Bool.false_ne_true] at hm ⊢
    cases hm
    exact k μ1 H1 a1 r1
theorem pmw_or (ha : PMT X a ta) (hb : PMW X (.BoolOp .Or (b :: rest) pos) tb) : PMW X (.BoolOp .Or (a :: b :: rest) pos) (mOrT ta tb) := PW.imp (pw_or ha hb) fun σ H Q h => by
  obtain ⟨μ, S, ρ, bb, S', r, er, hm, k⟩ := h
  obtain ⟨d1, S1, h1, hm⟩ := R.bind_ok hm
  refine tMT_then r er h1 fun μ1 H1 a1 r1 e1 => ?_
  cases d1 with
  | false =>
    rw [if_neg Bool.false_ne_true] at hm ⊢
    exact ⟨μ1, S1, ρ, bb, S', r1, e1, hm, fun μ' H' a' => k μ' H' (a1.trans a')⟩
  | true =>
    rw [if_pos rfl] at hm ⊢
    cases hm
    exact k μ1 H1 a1 r1
theorem pmt_w (h : PMW X a ta) : PMT X a ta := h.pt
/-- as values -/
def mAndV (ma mb : ME) : ME := fun ρ S => (ma ρ S).bind fun d S1 => match d with
  | .bl true => mb ρ S1
  | .bl false => .ok (.bl false) S1
  | _ => .bad
def mOrV (ma mb : ME) : ME := fun ρ S => (ma ρ S).bind fun d S1 => match d with
  | .bl true => .ok (.bl true) S1
  | .bl false => mb ρ S1
  | _ => .bad
def mNotV (ma : ME) : ME := fun ρ S => (ma ρ S).bind fun d S1 => match d with
  | .bl b => .ok (.bl (!b)) S1
  | _ => .bad
theorem pm_one {op : BoolOp} (h : PM X a ma) : PM X (.BoolOp op [a] pos) ma := pe_one h
theorem pm_and (ha : PM X a ma) (hb : PM X (.BoolOp .And (b :: rest) pos) mb) : PM X (.BoolOp .And (a :: b :: rest) pos) (mAndV ma mb) := PE.imp (pe_and ha hb) fun σ H Q h => by
  obtain ⟨μ, S, ρ, d, S', r, er, hm, k⟩ := h
  obtain ⟨d1, S1, h1, hm⟩ := R.bind_ok hm
  refine tM_then r er h1 fun μ1 x H1 a1 r1 e1 p1 => ?_
  split at hm
  · simp only [Rep] at p1
    refine ⟨true, p1, ?_⟩
    rw [if_pos rfl]
    exact ⟨μ1, S1, ρ, d, S', r1, e1, hm, k.after a1⟩
  · simp only [Rep] at p1
    refine ⟨false, p1, ?_⟩
    rw [if_neg Bool.false_ne_true]
    cases hm
    exact k μ1 _ H1 a1 r1 (by simp only [Rep])
  · cases hm
theorem pm_or (ha : PM X a ma) (hb : PM X (.BoolOp .Or (b :: rest) pos) mb) : PM X (.BoolOp .Or (a :: b :: rest) pos) (mOrV ma mb) := PE.imp (pe_or ha hb) fun σ H Q h => by
  obtain ⟨μ, S, ρ, d, S', r, er, hm, k⟩ := h
  obtain ⟨d1, S1, h1, hm⟩ := R.bind_ok hm
  refine tM_then r er h1 fun μ1 x H1 a1 r1 e1 p1 => ?_
  split at hm
  · simp only [Rep] at p1
    refine ⟨true, p1, ?_⟩
    rw [if_pos rfl]
    cases hm
    exact k μ1 _ H1 a1 r1 (by simp only [Rep])
  · simp only [Rep] at p1
    refine ⟨false, p1, ?_⟩
    rw [if_neg Bool.false_ne_true]
    exact ⟨μ1, S1, ρ, d, S', r1, e1, hm, k.after a1⟩
  · cases hm
theorem pm_not (ha : PM X a ma) : PM X (.UnaryOp .Not a pos) (mNotV ma) := PE.imp (pe_not ha) fun σ H Q h => by
  obtain ⟨μ, S, ρ, d, S', r, er, hm, k⟩ := h
  obtain ⟨d1, S1, h1, hm⟩ := R.bind_ok hm
  refine tM_then r er h1 fun μ1 x H1 a1 r1 e1 p1 => ?_
  split at hm
  · simp only [Rep] at p1
    cases hm
    exact ⟨_, p1, k μ1 _ H1 a1 r1 (by simp only [Rep])⟩
  · cases hm
def mIf (t : MT) (ma mb : ME) : ME := fun ρ S => (t ρ S).bind fun b S1 => if b = true then ma ρ S1 else mb ρ S1
theorem pm_if {t : MT} (hc : PMT X c t) (ha : PM X a ma) (hb : PM X b mb) : PM X (.IfExp c a b pos) (mIf t ma mb) := PE.imp (pe_ifExp hc ha hb) fun σ H Q h => by
  obtain ⟨μ, S, ρ, d, S', r, er, hm, k⟩ := h
  obtain ⟨d1, S1, h1, hm⟩ := R.bind_ok hm
  refine tMT_then r er h1 fun μ1 H1 a1 r1 e1 => ?_
  cases d1 with
  | true =>
    rw [if_pos rfl] at hm ⊢
    exact ⟨μ1, S1, ρ, d, S', r1, e1, hm, k.after a1⟩
  | false =>
    rw [if_neg Bool.false_ne_true] at hm ⊢
    exact ⟨μ1, S1, ρ, d, S', r1, e1, hm, k.after a1⟩

/-! ### arguments, displays -/
def mNil : MA := fun _ S => .ok [] S
def mCons (m : ME) (u : MA) : MA := fun ρ S => (m ρ S).bind fun d S1 => (u ρ S1).bind fun ds S2 => .ok (d :: ds) S2
variable {ms : MA}
theorem pma_nil : PMA X [] mNil := PA.imp pa_nil fun σ H Q h => by
  obtain ⟨μ, S, ρ, ds, S', r, er, hm, k⟩ := h
  cases hm
  exact k μ _ H After.refl r Reps.nil
theorem pma_cons (ha : PM X e m) (hr : PMA X es ms) (hs : starEach (e :: es) X.env = (false, eval e X.env) :: starEach es X.env := by rfl) : PMA X (e :: es) (mCons m ms) := PA.imp (pa_cons ha hr hs) fun σ H Q h => by
  obtain ⟨μ, S, ρ, ds, S', r, er, hm, k⟩ := h
  obtain ⟨d1, S1, h1, hm⟩ := R.bind_ok hm
  obtain ⟨d2, S2, h2, hm⟩ := R.bind_ok hm
  cases hm
  refine tM_then r er h1 fun μ1 x H1 a1 r1 e1 p1 => tMA_then r1 e1 h2 fun μ2 xs H2 a2 r2 e2 p2 => ?_
  exact k μ2 _ H2 (a1.trans a2) r2 (Reps.cons (p1.mono r1 a2) p2)
def mTup (u : MA) : ME := fun ρ S => (u ρ S).bind fun ds S1 => if ds.length ≤ lim then .ok (.tup ds) S1 else .bad
def mLst (u : MA) : ME := fun ρ S => (u ρ S).bind fun ds S1 => if ds.length ≤ lim then .ok (.loc S1.length) (S1 ++ [.lst ds]) else .bad
theorem pm_tup {x1} (h : PMA X es ms) : PM X (.Tuple es x1 pos) (mTup ms) := PE.imp (pe_tup h) fun σ H Q h => by
  obtain ⟨μ, S, ρ, d, S', r, er, hm, k⟩ := h
  obtain ⟨d1, S1, h1, hm⟩ := R.bind_ok hm
  refine tMA_then r er h1 fun μ1 vs H1 a1 r1 e1 p1 => ?_
  split at hm
  · rename_i hl
    cases hm
    exact ⟨by rw [p1.length]; exact lim_line hl, fun p hp => newTup r1 p1 hp (k.after a1)⟩
  · cases hm
theorem pm_lst (h : PMA X es ms) : PM X (.List es pos) (mLst ms) := PE.imp (pe_lst h) fun σ H Q h => by
  obtain ⟨μ, S, ρ, d, S', r, er, hm, k⟩ := h
  obtain ⟨d1, S1, h1, hm⟩ := R.bind_ok hm
  refine tMA_then r er h1 fun μ1 vs H1 a1 r1 e1 p1 => ?_
  split at hm
  · rename_i hl
    cases hm
    exact ⟨by rw [p1.length]; exact lim_line hl, fun p hp => newLst r1 p1 hp (k.after a1)⟩
  · cases hm

/-! ### calls of the text's own defs -/
def spM (K : PySem.W.Frag) (n : Nat) (f : MF) : Sp := fun vs H Q _ => vs.length = n ∧ rMC K f vs H Q
def mCall (f : MF) (u : MA) : ME := fun ρ S => (u ρ S).bind fun ds S1 => f ds S1
def Takes0 (n : Nat) (f : MF) : Prop := ∀ (ds : List D) (S : Sto) (d : D) (S' : Sto), f ds S = .ok d S' → ds.length = n
theorem pm_call {k n : Nat} {f : Addr} {fd : FuncData} {ps : List Str} {x : Str} {p : Pos} {g : MF} (F : FnOk X.prog X.w X.K X.mg X.base CX0 k f fd ps (spM X.K n g)) (hr : Room k X.A) (hg : Gl X x) (hm : X.mg x = some (.ref f)) (hk : PySem.W.keepIn X.K (.ref f) = true) (hb : Binds X.K fd ps [])
    (ht : Takes0 n g) (ha : PMA X (e :: es) ms) (hdb : (x == ("__debug__" : Str)) = false := by decide) (he : starEach (e :: es) X.env = (false, eval e X.env) :: starEach es X.env := by rfl) (hpl : (backTo pos (starEach es X.env)).any (·.1) = false := by rfl) :
    PM X (.Call (.Name x p) (e :: es) [] pos) (mCall g ms) := PE.imp (pe_call F hr hg hm hk hb .nil pass0 ha hdb he hpl) fun σ H Q h => by
  obtain ⟨μ, S, ρ, d, S', r, er, hm, k⟩ := h
  obtain ⟨d1, S1, h1, hm⟩ := R.bind_ok hm
  refine tMA_then r er h1 fun μ1 vs H1 a1 r1 e1 p1 => ?_
  rw [List.append_nil]
  exact ⟨by rw [p1.length]; exact ht _ _ _ _ hm, μ1, S1, d1, d, S', r1, p1, hm, k.after a1⟩
theorem pm_call0 {k : Nat} {f : Addr} {fd : FuncData} {ps : List Str} {x : Str} {p : Pos} {g : MF} (F : FnOk X.prog X.w X.K X.mg X.base CX0 k f fd ps (spM X.K 0 g)) (hr : Room k X.A) (hg : Gl X x) (hm : X.mg x = some (.ref f)) (hk : PySem.W.keepIn X.K (.ref f) = true) (hb : Binds X.K fd ps [])
    (hdb : (x == ("__debug__" : Str)) = false := by decide) :
    PM X (.Call (.Name x p) [] [] pos) (mCall g mNil) := PE.imp (pe_call0 F hr hg hm hk hb .nil pass0 hdb) fun σ H Q h => by
  obtain ⟨μ, S, ρ, d, S', r, er, hm, k⟩ := h
  exact ⟨rfl, μ, S, [], d, S', r, Reps.nil, hm, k⟩

/-! ### calls of built-ins -/
theorem pm_cb {g : MF} {x : Str} {id : String} {p : Pos} (hc : OC X (.builtin id) g) (hg : Gl X x) (hm : X.mg x = none) (hv : bootBuiltins x = some (.builtin id)) (ha : PMA X (e :: es) ms) (hn : x ≠ "__name__" := by decide) (hdb : (x == ("__debug__" : Str)) = false := by decide)
    (he : starEach (e :: es) X.env = (false, eval e X.env) :: starEach es X.env := by rfl) (hpl : (backTo pos (starEach es X.env)).any (·.1) = false := by rfl) : PM X (.Call (.Name x p) (e :: es) [] pos) (mCall g ms) := PE.imp (pe_callB hc hg hm hv ha hn hdb he hpl) fun σ H Q h => by
  obtain ⟨μ, S, ρ, d, S', r, er, hm, k⟩ := h
  obtain ⟨d1, S1, h1, hm⟩ := R.bind_ok hm
  exact tMA_then r er h1 fun μ1 vs H1 a1 r1 e1 p1 => ⟨μ1, S1, d1, d, S', r1, p1, hm, k.after a1⟩
theorem pm_ct {g : MF} {x : Str} {T : String} {p : Pos} (hc : OC X (.type T) g) (hg : Gl X x) (hm : X.mg x = none) (hv : bootBuiltins x = some (.type T)) (ha : PMA X (e :: es) ms) (hn : x ≠ "__name__" := by decide) (hdb : (x == ("__debug__" : Str)) = false := by decide)
    (he : starEach (e :: es) X.env = (false, eval e X.env) :: starEach es X.env := by rfl) (hpl : (backTo pos (starEach es X.env)).any (·.1) = false := by rfl) : PM X (.Call (.Name x p) (e :: es) [] pos) (mCall g ms) := PE.imp (pe_callTy hc hg hm hv ha hn hdb he hpl) fun σ H Q h => by
  obtain ⟨μ, S, ρ, d, S', r, er, hm, k⟩ := h
  obtain ⟨d1, S1, h1, hm⟩ := R.bind_ok hm
  exact tMA_then r er h1 fun μ1 vs H1 a1 r1 e1 p1 => ⟨μ1, S1, d1, d, S', r1, p1, hm, k.after a1⟩
end
end En
namespace En
open PySem L2
theorem rep_non {K : PySem.W.Frag} {μ : List Addr} {H : Hp} {v : V} (h : Rep K μ H .non v) : v = .non := by simpa only [Rep] using h
theorem rep_bl {K : PySem.W.Frag} {μ : List Addr} {H : Hp} {b : Bool} {v : V} (h : Rep K μ H (.bl b) v) : v = .bl b := by simpa only [Rep] using h
theorem rep_int {K : PySem.W.Frag} {μ : List Addr} {H : Hp} {b : Int} {v : V} (h : Rep K μ H (.int b) v) : v = .int b := by simpa only [Rep] using h
theorem rep_str {K : PySem.W.Frag} {μ : List Addr} {H : Hp} {b : Str} {v : V} (h : Rep K μ H (.str b) v) : v = .str b := by simpa only [Rep] using h
theorem rep_tup {K : PySem.W.Frag} {μ : List Addr} {H : Hp} {ds : List D} {v : V} (h : Rep K μ H (.tup ds) v) : ∃ a vs, v = .ref a ∧ SqT K H a vs ∧ Reps K μ H ds vs := by simpa only [Rep] using h
theorem rep_rol {K : PySem.W.Frag} {μ : List Addr} {H : Hp} {ds : List D} {v : V} (h : Rep K μ H (.rol ds) v) : ∃ a vs, v = .ref a ∧ SqL K H a vs ∧ Reps K μ H ds vs := by
  simp only [Rep] at h
  obtain ⟨a, vs, e, hs, q⟩ := h
  refine ⟨a, vs, e, ?_, q⟩
  rcases hs with ⟨o, hs⟩ | hs
  · exact .inl (.inr ⟨o, hs⟩)
  · exact .inr hs
theorem repI {K : PySem.W.Frag} {μ : List Addr} {H : Hp} {i : Int} : Rep K μ H (.int i) (.int i) := by simp only [Rep]
theorem repB {K : PySem.W.Frag} {μ : List Addr} {H : Hp} {i : Bool} : Rep K μ H (.bl i) (.bl i) := by simp only [Rep]
theorem repS {K : PySem.W.Frag} {μ : List Addr} {H : Hp} {i : Str} : Rep K μ H (.str i) (.str i) := by simp only [Rep]
theorem repN {K : PySem.W.Frag} {μ : List Addr} {H : Hp} : Rep K μ H .non .non := by simp only [Rep]
theorem Post.int {K : PySem.W.Frag} {μ : List Addr} {S : Sto} {H : Hp} {i : Int} {Q : VK} (k : Post K μ H (.int i) S Q) (r : Rel K μ S H) : Q (.int i) H := k μ _ H After.refl r repI
theorem Post.bl {K : PySem.W.Frag} {μ : List Addr} {S : Sto} {H : Hp} {i : Bool} {Q : VK} (k : Post K μ H (.bl i) S Q) (r : Rel K μ S H) : Q (.bl i) H := k μ _ H After.refl r repB
theorem Post.str {K : PySem.W.Frag} {μ : List Addr} {S : Sto} {H : Hp} {i : Str} {Q : VK} (k : Post K μ H (.str i) S Q) (r : Rel K μ S H) : Q (.str i) H := k μ _ H After.refl r repS
theorem Post.non {K : PySem.W.Frag} {μ : List Addr} {S : Sto} {H : Hp} {Q : VK} (k : Post K μ H .non S Q) (r : Rel K μ S H) : Q .non H := k μ _ H After.refl r repN
theorem Post.same {K : PySem.W.Frag} {μ : List Addr} {S : Sto} {H : Hp} {d : D} {v : V} {Q : VK} (k : Post K μ H d S Q) (r : Rel K μ S H) (p : Rep K μ H d v) : Q v H := k μ _ H After.refl r p

/-- ints in, under c, a value out -/
def intOp (c : Int → Int → Bool) (g : Int → Int → D) : F2 := fun a b S => match a, b with
  | .int i, .int j => if c i j = true then .ok (g i j) S else .bad
  | _, _ => .bad
def subD : F2 := fun a b S => match a, b with
  | .int i, .int j => .ok (.int (i - j)) S
  | _, _ => .bad
def addD : F2 := fun a b S => match a, b with
  | .int i, .int j => .ok (.int (i + j)) S
  | .str x, .str y => if x.length + y.length ≤ lim then .ok (.str (x ++ y)) S else .bad
  | .tup xs, .tup ys => if xs.length + ys.length ≤ lim then .ok (.tup (xs ++ ys)) S else .bad
  | .loc i, .loc j => match S[i]?, S[j]? with
    | some (.lst xs), some (.lst ys) => if xs.length + ys.length ≤ lim then .ok (.loc S.length) (S ++ [.lst (xs ++ ys)]) else .bad
    | _, _ => .bad
  | _, _ => .bad
def mulD : F2 := fun a b S => match a, b with
  | .int i, .int j => if i.natAbs.log2 + j.natAbs.log2 < 1000000 then .ok (.int (i * j)) S else .bad
  | .tup xs, .int k => if xs ≠ [] ∧ 2 ≤ k ∧ k ≤ 1000 ∧ xs.length ≤ 1000 then .ok (.tup (List.replicate k.toNat xs).flatten) S else .bad
  | .loc i, .int k => match S[i]? with
    | some (.lst xs) => if -1000000 ≤ k ∧ k ≤ 1000000 ∧ xs.length * k.toNat ≤ lim then .ok (.loc S.length) (S ++ [.lst (List.replicate k.toNat xs).flatten]) else .bad
    | _ => .bad
  | _, _ => .bad
def fdivD : F2 := fun a b S => match a, b with
  | .int i, .int j => if 0 < j ∧ j.natAbs.log2 < 9000 then .ok (.int (i / j)) S else .bad
  | _, _ => .bad
def modD : F2 := fun a b S => match a, b with
  | .int i, .int j => if 0 < j then .ok (.int (i % j)) S else .bad
  | _, _ => .bad
def powD : F2 := fun a b S => match a, b with
  | .int i, .int j => if 0 ≤ j ∧ j ≤ 1000000 ∧ i.natAbs < 2 ^ 64 then .ok (.int (i ^ j.toNat)) S else .bad
  | _, _ => .bad
def shlD : F2 := fun a b S => match a, b with
  | .int i, .int j => if 0 ≤ j ∧ (Builtin.Int.intBits i : Int) + j ≤ 2 ^ 27 then .ok (.int (i * 2 ^ j.toNat)) S else .bad
  | _, _ => .bad
def shrD : F2 := fun a b S => match a, b with
  | .int i, .int j => if 0 ≤ j then .ok (.int (i / 2 ^ j.toNat)) S else .bad
  | _, _ => .bad
def andD : F2 := fun a b S => match a, b with
  | .int i, .int j => .ok (.int (Builtin.bitAnd i j)) S
  | _, _ => .bad
def orD : F2 := fun a b S => match a, b with
  | .int i, .int j => .ok (.int (Builtin.bitOr i j)) S
  | _, _ => .bad
def negD : F1 := fun a S => match a with
  | .int i => .ok (.int (-i)) S
  | _ => .bad
section
variable {X : Cx}
theorem o_sub : O2 X (binaryOp .Sub) subD := OpR.imp op_sub fun x y H Q ⟨μ, S, a, b, d, S', r, pa, pb, h, k⟩ => by
  unfold subD at h
  split at h
  · cases h
    exact ⟨_, _, rep_int pa, rep_int pb, k.int r⟩
  · cases h
theorem o_add : O2 X (binaryOp .Add) addD := OpR.imp (op_add.or (op_add_str.or (op_catA.or op_cat))) fun x y H Q ⟨μ, S, a, b, d, S', r, pa, pb, h, k⟩ => by
  unfold addD at h
  split at h
  · cases h
    exact .inl ⟨_, _, rep_int pa, rep_int pb, k.int r⟩
  · split at h
    · rename_i hl
      cases h
      exact .inr (.inl ⟨_, _, rep_str pa, rep_str pb, lim_line hl, k.str r⟩)
    · cases h
  · rename_i xs ys
    split at h
    · rename_i hl
      cases h
      obtain ⟨p, vs, rfl, h1, q1⟩ := rep_tup pa
      obtain ⟨p', vs', rfl, h2, q2⟩ := rep_tup pb
      have l1 := q1.length
      have l2 := q2.length
      refine .inr (.inr (.inl ⟨p, p', vs, vs', rfl, rfl, h1, h2, by rw [l1, l2]; exact lim_line hl, fun e => ?_, fun _ e => ?_, fun _ _ p2 hp => ?_⟩))
      · subst e
        have : xs = [] := List.length_eq_zero_iff.mp l1.symm
        subst this
        exact k.same r (by simp only [Rep, List.nil_append]; exact ⟨p', vs', rfl, h2, q2⟩)
      · subst e
        have : ys = [] := List.length_eq_zero_iff.mp l2.symm
        subst this
        exact k.same r (by rw [List.append_nil]; simp only [Rep]; exact ⟨p, vs, rfl, h1, q1⟩)
      · exact newTup r (q1.append q2) hp k
    · cases h
  · rename_i i j
    split at h
    · rename_i xs ys hi hj
      split at h
      · rename_i hl
        cases h
        obtain ⟨p, vs, rfl, _, h1, q1⟩ := r.lst hi pa
        obtain ⟨p', vs', rfl, _, h2, q2⟩ := r.lst hj pb
        exact .inr (.inr (.inr ⟨p, p', vs, vs', rfl, rfl, h1, h2, by rw [q1.length, q2.length]; exact lim_line hl, fun p2 hp => newLst r (q1.append q2) hp k⟩))
      · cases h
    · cases h
  · cases h
theorem Reps.rep {K : PySem.W.Frag} {μ : List Addr} {H : Hp} {ds : List D} {vs : List V} (h : Reps K μ H ds vs) : ∀ n : Nat, Reps K μ H (List.replicate n ds).flatten (List.replicate n vs).flatten
  | 0 => Reps.nil
  | n + 1 => by
    rw [List.replicate_succ, List.replicate_succ, List.flatten_cons, List.flatten_cons]
    exact h.append (Reps.rep h n)
theorem o_mul : O2 X (binaryOp .Mult) mulD := OpR.imp (op_mulW.or (op_repT.or op_rep)) fun x y H Q ⟨μ, S, a, b, d, S', r, pa, pb, h, k⟩ => by
  unfold mulD at h
  split at h
  · split at h
    · rename_i hl
      cases h
      exact .inl ⟨_, _, rep_int pa, rep_int pb, hl, k.int r⟩
    · cases h
  · rename_i xs j
    split at h
    · rename_i hl
      cases h
      obtain ⟨h0, h1, h2, h3⟩ := hl
      obtain ⟨p, vs, rfl, h1', q1⟩ := rep_tup pa
      have l1 := q1.length
      refine .inr (.inl ⟨p, j, vs, rfl, rep_int pb, h1', fun e => h0 ?_, h1, h2, by omega, fun p2 hp => newTup r (q1.rep _) hp k⟩)
      subst e
      exact List.length_eq_zero_iff.mp l1.symm
    · cases h
  · rename_i i j
    split at h
    · rename_i xs hi
      split at h
      · rename_i hl
        cases h
        obtain ⟨h1, h2, h3⟩ := hl
        obtain ⟨p, vs, rfl, _, h1', q1⟩ := r.lst hi pa
        exact .inr (.inr ⟨p, j, vs, rfl, rep_int pb, h1', by omega, by omega, by rw [q1.length]; exact lim_line h3, fun p2 hp => newLst r (q1.rep _) hp k⟩)
      · cases h
    · cases h
  · cases h
theorem o_fdiv : O2 X (binaryOp .FloorDiv) fdivD := OpR.imp op_fdivW fun x y H Q ⟨μ, S, a, b, d, S', r, pa, pb, h, k⟩ => by
  unfold fdivD at h
  split at h
  · split at h
    · rename_i hl
      cases h
      exact ⟨_, _, rep_int pa, rep_int pb, hl, k.int r⟩
    · cases h
  · cases h
theorem o_mod : O2 X (binaryOp .Mod) modD := OpR.imp op_mod fun x y H Q ⟨μ, S, a, b, d, S', r, pa, pb, h, k⟩ => by
  unfold modD at h
  split at h
  · split at h
    · rename_i hl
      cases h
      exact ⟨_, _, rep_int pa, rep_int pb, hl, k.int r⟩
    · cases h
  · cases h
theorem o_pow : O2 X (binaryOp .Pow) powD := OpR.imp op_pow fun x y H Q ⟨μ, S, a, b, d, S', r, pa, pb, h, k⟩ => by
  unfold powD at h
  split at h
  · split at h
    · rename_i hl
      cases h
      exact ⟨_, _, rep_int pa, rep_int pb, hl, k.int r⟩
    · cases h
  · cases h
theorem o_shl : O2 X (binaryOp .LShift) shlD := OpR.imp op_shlW fun x y H Q ⟨μ, S, a, b, d, S', r, pa, pb, h, k⟩ => by
  unfold shlD at h
  split at h
  · split at h
    · rename_i hl
      cases h
      exact ⟨_, _, rep_int pa, rep_int pb, hl, k.int r⟩
    · cases h
  · cases h
theorem o_shr : O2 X (binaryOp .RShift) shrD := OpR.imp op_shr fun x y H Q ⟨μ, S, a, b, d, S', r, pa, pb, h, k⟩ => by
  unfold shrD at h
  split at h
  · split at h
    · rename_i hl
      cases h
      exact ⟨_, _, rep_int pa, rep_int pb, hl, k.int r⟩
    · cases h
  · cases h
theorem o_and : O2 X (binaryOp .BitAnd) andD := OpR.imp op_and fun x y H Q ⟨μ, S, a, b, d, S', r, pa, pb, h, k⟩ => by
  unfold andD at h
  split at h
  · cases h
    exact ⟨_, _, rep_int pa, rep_int pb, k.int r⟩
  · cases h
theorem o_or : O2 X (binaryOp .BitOr) orD := OpR.imp op_or fun x y H Q ⟨μ, S, a, b, d, S', r, pa, pb, h, k⟩ => by
  unfold orD at h
  split at h
  · cases h
    exact ⟨_, _, rep_int pa, rep_int pb, k.int r⟩
  · cases h
theorem o_neg : O1 X (unaryOp .USub) negD := UnR.imp un_neg fun x H Q ⟨μ, S, a, d, S', r, pa, h, k⟩ => by
  unfold negD at h
  split at h
  · cases h
    exact ⟨_, rep_int pa, k.int r⟩
  · cases h

/-! ### comparisons -/
def ordD (g : Int → Int → Bool) : F2 := fun a b S => match a, b with
  | .int i, .int j => .ok (.bl (g i j)) S
  | _, _ => .bad
theorem ord_imp {op : CmpOp} {g : Int → Int → Bool} (ho : OpR X (compareOp op) (rI0 fun i j => .bl (g i j))) : O2 X (compareOp op) (ordD g) := OpR.imp ho fun x y H Q ⟨μ, S, a, b, d, S', r, pa, pb, h, k⟩ => by
  unfold ordD at h
  split at h
  · cases h
    exact ⟨_, _, rep_int pa, rep_int pb, k.bl r⟩
  · cases h
abbrev ltD : F2 := ordD fun i j => decide (i < j)
abbrev leD : F2 := ordD fun i j => decide (i ≤ j)
abbrev gtD : F2 := ordD fun i j => decide (j < i)
abbrev geD : F2 := ordD fun i j => decide (j ≤ i)
theorem o_lt : O2 X (compareOp .Lt) ltD := ord_imp op_lt
theorem o_le : O2 X (compareOp .LtE) leD := ord_imp op_le
theorem o_gt : O2 X (compareOp .Gt) gtD := ord_imp op_gt
theorem o_ge : O2 X (compareOp .GtE) geD := ord_imp op_ge
end
-- as data: a list's items as they stand; f: what the places hold
mutual
def pyD (f : Nat → Option PyData) : D → Option PyData
  | .non => some .none
  | .bl b => some (.bool b)
  | .int i => some (.int i)
  | .str x => some (.str x)
  | .tup ds => (pyAll f ds).map PyData.tuple
  | .rol ds => (pyAll f ds).map PyData.list
  | .loc i => f i
def pyAll (f : Nat → Option PyData) : List D → Option (List PyData)
  | [] => some []
  | d :: ds => match pyD f d, pyAll f ds with
    | some x, some xs => some (x :: xs)
    | _, _ => none
end
def locN : Nat → Sto → Nat → Option PyData
  | 0, _, _ => none
  | n + 1, S, i => match S[i]? with
    | some (.lst ds) => (pyAll (locN n S) ds).map PyData.list
    | _ => none
def pyS (S : Sto) (d : D) : Option PyData := pyD (locN 3 S) d
section
variable {K : PySem.W.Frag} {μ : List Addr} {S : Sto} {H : Hp} {f : Nat → Option PyData}
mutual
theorem dp_of (hf : ∀ i p v, f i = some p → Rep K μ H (.loc i) v → Dp K H v p) : ∀ {d : D} {v : V} {p : PyData}, pyD f d = some p → Rep K μ H d v → Dp K H v p
  | .non, v, p, h, q => by
    rw [rep_non q]; simp only [pyD] at h; cases h; exact .non
  | .bl b, v, p, h, q => by
    rw [rep_bl q]; simp only [pyD] at h; cases h; exact .bl _
  | .int b, v, p, h, q => by
    rw [rep_int q]; simp only [pyD] at h; cases h; exact .int _
  | .str b, v, p, h, q => by
    rw [rep_str q]; simp only [pyD] at h; cases h; exact .str _
  | .tup ds, v, p, h, q => by
    obtain ⟨a, vs, rfl, hs, q⟩ := rep_tup q
    simp only [pyD] at h
    cases e : pyAll f ds with
    | none => rw [e] at h; cases h
    | some ps => rw [e] at h; cases h; exact .tup hs (dpAll_of hf e q)
  | .rol ds, v, p, h, q => by
    obtain ⟨a, vs, rfl, hs, q⟩ := rep_rol q
    simp only [pyD] at h
    cases e : pyAll f ds with
    | none => rw [e] at h; cases h
    | some ps => rw [e] at h; cases h; exact .lst hs (dpAll_of hf e q)
  | .loc i, v, p, h, q => hf i p v (by simpa only [pyD] using h) q
theorem dpAll_of (hf : ∀ i p v, f i = some p → Rep K μ H (.loc i) v → Dp K H v p) : ∀ {ds : List D} {vs : List V} {ps : List PyData}, pyAll f ds = some ps → Reps K μ H ds vs → DpAll K H vs ps
  | [], vs, ps, h, q => by
    simp only [Reps] at q; subst q; simp only [pyAll] at h; cases h; exact .nil
  | d :: ds, vs, ps, h, q => by
    simp only [Reps] at q
    obtain ⟨v, r, rfl, q1, q2⟩ := q
    simp only [pyAll] at h
    split at h
    · rename_i x xs h1 h2
      cases h
      exact .cons (dp_of hf h1 q1) (dpAll_of hf h2 q2)
    · cases h
end
theorem dp_loc (r : Rel K μ S H) : ∀ (n : Nat) (i : Nat) (p : PyData) (v : V), locN n S i = some p → Rep K μ H (.loc i) v → Dp K H v p
  | 0, i, p, v, h, _ => by cases h
  | n + 1, i, p, v, h, q => by
    unfold locN at h
    split at h
    · rename_i ds hi
      cases e : pyAll (locN n S) ds with
      | none => rw [e] at h; cases h
      | some ps =>
        rw [e] at h; cases h
        obtain ⟨a, vs, rfl, _, h1, q1⟩ := r.lst hi q
        exact .lst (SqL.of h1) (dpAll_of (dp_loc r n) e q1)
    · cases h
theorem dp_py (r : Rel K μ S H) {d : D} {v : V} {p : PyData} (h : pyS S d = some p) (q : Rep K μ H d v) : Dp K H v p := dp_of (dp_loc r 3) h q
end
def eqD : F2 := fun a b S => match pyS S a, pyS S b with
  | some p, some q => if (SeqAt.shaped p && SeqAt.shaped q) = true then .ok (.bl (PyData.eqv p q)) S else .bad
  | _, _ => .bad
def neD : F2 := fun a b S => match pyS S a, pyS S b with
  | some p, some q => if (SeqAt.shaped p && SeqAt.shaped q) = true then .ok (.bl (!PyData.eqv p q)) S else .bad
  | _, _ => .bad
/-- flat values -/
def flatD : D → Bool
  | .non => true
  | .bl _ => true
  | .int _ => true
  | .str _ => true
  | _ => false
def eqF : D → D → Bool
  | .non, .non => true
  | .bl a, .bl b => a == b
  | .bl a, .int b => (if a then 1 else 0) == b
  | .int a, .bl b => a == (if b then 1 else 0)
  | .int a, .int b => a == b
  | .str a, .str b => a == b
  | _, _ => false
theorem flat_rep {K : PySem.W.Frag} {μ : List Addr} {H : Hp} {d : D} {v : V} (f : flatD d = true) (h : Rep K μ H d v) : flatV v = true := by
  cases d with
  | non => rw [rep_non h]; rfl
  | bl _ => rw [rep_bl h]; rfl
  | int _ => rw [rep_int h]; rfl
  | str _ => rw [rep_str h]; rfl
  | _ => cases f
theorem eqF_rep {K : PySem.W.Frag} {μ : List Addr} {H : Hp} {d e : D} {v w : V} (f : flatD d = true) (g : flatD e = true) (h : Rep K μ H d v) (k : Rep K μ H e w) : eqV v w = eqF d e := by
  cases d with
  | non => rw [rep_non h]; cases e <;> first | (rw [rep_non k]; rfl) | (rw [rep_bl k]; rfl) | (rw [rep_int k]; rfl) | (rw [rep_str k]; rfl) | cases g
  | bl _ => rw [rep_bl h]; cases e <;> first | (rw [rep_non k]; rfl) | (rw [rep_bl k]; rfl) | (rw [rep_int k]; rfl) | (rw [rep_str k]; rfl) | cases g
  | int _ => rw [rep_int h]; cases e <;> first | (rw [rep_non k]; rfl) | (rw [rep_bl k]; rfl) | (rw [rep_int k]; rfl) | (rw [rep_str k]; rfl) | cases g
  | str _ => rw [rep_str h]; cases e <;> first | (rw [rep_non k]; rfl) | (rw [rep_bl k]; rfl) | (rw [rep_int k]; rfl) | (rw [rep_str k]; rfl) | cases g
  | _ => cases f
theorem flats_rep {K : PySem.W.Frag} {μ : List Addr} {H : Hp} : ∀ {ds : List D} {vs : List V}, ds.all flatD = true → Reps K μ H ds vs → vs.all flatV = true
  | [], vs, _, h => by simp only [Reps] at h; subst h; rfl
  | d :: ds, vs, f, h => by
    simp only [Reps] at h
    obtain ⟨v, r, rfl, h1, h2⟩ := h
    rw [List.all_cons, Bool.and_eq_true] at f ⊢
    exact ⟨flat_rep f.1 h1, flats_rep f.2 h2⟩
theorem inV_rep {K : PySem.W.Frag} {μ : List Addr} {H : Hp} {x : D} {w : V} (g : flatD x = true) (k : Rep K μ H x w) : ∀ {ds : List D} {vs : List V}, ds.all flatD = true → Reps K μ H ds vs → inV w vs = ds.any fun y => eqF y x
  | [], vs, _, h => by simp only [Reps] at h; subst h; rfl
  | d :: ds, vs, f, h => by
    simp only [Reps] at h
    obtain ⟨v, r, rfl, h1, h2⟩ := h
    rw [List.all_cons, Bool.and_eq_true] at f
    have ih := inV_rep g k f.2 h2
    unfold inV at ih ⊢
    rw [List.any_cons, List.any_cons, eqF_rep f.1 g h1 k, ih]
/-- the items of a list, a tuple -/
def itsD (S : Sto) : D → Option (List D)
  | .tup ds => some ds
  | .rol ds => some ds
  | .loc i => match S[i]? with
    | some (.lst ds) => some ds
    | _ => none
  | _ => none
theorem its_rep {K : PySem.W.Frag} {μ : List Addr} {S : Sto} {H : Hp} (r : Rel K μ S H) {d : D} {ds : List D} {v : V} (h : itsD S d = some ds) (q : Rep K μ H d v) : ∃ p vs, v = .ref p ∧ (SqL K H p vs ∨ SqT K H p vs) ∧ Reps K μ H ds vs := by
  cases d with
  | tup es => cases h; obtain ⟨a, vs, rfl, hs, q⟩ := rep_tup q; exact ⟨a, vs, rfl, .inr hs, q⟩
  | rol es => cases h; obtain ⟨a, vs, rfl, hs, q⟩ := rep_rol q; exact ⟨a, vs, rfl, .inl hs, q⟩
  | loc i =>
    unfold itsD at h
    simp only at h
    split at h
    · rename_i es hi
      cases h
      obtain ⟨a, vs, rfl, _, h1, q1⟩ := r.lst hi q
      exact ⟨a, vs, rfl, .inl (SqL.of h1), q1⟩
    · cases h
  | _ => cases h
def inD' (neg : Bool) : F2 := fun a b S => match itsD S b with
  | some ds => if (flatD a && ds.all flatD) = true then .ok (.bl (if neg then !(ds.any fun y => eqF y a) else ds.any fun y => eqF y a)) S
    else match pyS S a, pyS S b with
      | some p, some (.list qs) => if (SeqAt.shaped p && SeqAt.shaped (.list qs)) = true then .ok (.bl (if neg then !(qs.any fun z => PyData.eqv z p) else qs.any fun z => PyData.eqv z p)) S else .bad
      | _, _ => .bad
  | none => .bad
abbrev inD : F2 := inD' false
abbrev notInD : F2 := inD' true
def isNon : D → Bool
  | .non => true
  | _ => false
def isND : F2 := fun a b S => match b with
  | .non => .ok (.bl (isNon a)) S
  | _ => .bad
def isNotND : F2 := fun a b S => match b with
  | .non => .ok (.bl (!isNon a)) S
  | _ => .bad
theorem non_iff {K : PySem.W.Frag} {μ : List Addr} {H : Hp} {d : D} {v : V} (q : Rep K μ H d v) : decide (v = .non) = isNon d := by
  cases d with
  | non => rw [rep_non q]; rfl
  | bl _ => rw [rep_bl q]; rfl
  | int _ => rw [rep_int q]; rfl
  | str _ => rw [rep_str q]; rfl
  | tup _ => obtain ⟨a, vs, rfl, _⟩ := rep_tup q; rfl
  | rol _ => obtain ⟨a, vs, rfl, _⟩ := rep_rol q; rfl
  | loc _ => simp only [Rep] at q; obtain ⟨a, _, rfl⟩ := q; rfl
section
variable {X : Cx}
theorem o_eq (hu : X.A.units + 64 < cLine) : O2 X (compareOp .Eq) eqD := OpR.imp (op_eqD hu) fun x y H Q ⟨μ, S, a, b, d, S', r, pa, pb, h, k⟩ => by
  unfold eqD at h
  split at h
  · rename_i p q hp hq
    split at h
    · rename_i hs
      rw [Bool.and_eq_true] at hs
      cases h
      exact ⟨p, q, dp_py r hp pa, dp_py r hq pb, hs.1, hs.2, k.bl r⟩
    · cases h
  · cases h
theorem o_ne (hu : X.A.units + 64 < cLine) : O2 X (compareOp .NotEq) neD := OpR.imp (op_neD hu) fun x y H Q ⟨μ, S, a, b, d, S', r, pa, pb, h, k⟩ => by
  unfold neD at h
  split at h
  · rename_i p q hp hq
    split at h
    · rename_i hs
      rw [Bool.and_eq_true] at hs
      cases h
      exact ⟨p, q, dp_py r hp pa, dp_py r hq pb, hs.1, hs.2, k.bl r⟩
    · cases h
  · cases h
theorem o_in (hu : X.A.units + 65 < cLine) : O2 X (compareOp .In) inD := OpR.imp (op_in_seq.or (op_inD hu)) fun x y H Q ⟨μ, S, a, b, d, S', r, pa, pb, h, k⟩ => by
  unfold inD inD' at h
  split at h
  · rename_i ds hd
    obtain ⟨p, vs, rfl, hs, q⟩ := its_rep r hd pb
    split at h
    · rename_i hf
      rw [Bool.and_eq_true] at hf
      cases h
      refine .inl ⟨p, vs, rfl, hs, flat_rep hf.1 pa, flats_rep hf.2 q, ?_⟩
      rw [inV_rep hf.1 pa hf.2 q]
      exact k.bl r
    · split at h
      · rename_i p' qs h1 h2
        split at h
        · rename_i hs'
          rw [Bool.and_eq_true] at hs'
          cases h
          exact .inr ⟨p', qs, dp_py r h1 pa, dp_py r h2 pb, hs'.1, hs'.2, k.bl r⟩
        · cases h
      · cases h
  · cases h
theorem o_notIn (hu : X.A.units + 65 < cLine) : O2 X (compareOp .NotIn) notInD := OpR.imp (op_notIn_seq.or (op_notInD hu)) fun x y H Q ⟨μ, S, a, b, d, S', r, pa, pb, h, k⟩ => by
  unfold notInD inD' at h
  split at h
  · rename_i ds hd
    obtain ⟨p, vs, rfl, hs, q⟩ := its_rep r hd pb
    split at h
    · rename_i hf
      rw [Bool.and_eq_true] at hf
      cases h
      refine .inl ⟨p, vs, rfl, hs, flat_rep hf.1 pa, flats_rep hf.2 q, ?_⟩
      rw [inV_rep hf.1 pa hf.2 q]
      exact k.bl r
    · split at h
      · rename_i p' qs h1 h2
        split at h
        · rename_i hs'
          rw [Bool.and_eq_true] at hs'
          cases h
          exact .inr ⟨p', qs, dp_py r h1 pa, dp_py r h2 pb, hs'.1, hs'.2, k.bl r⟩
        · cases h
      · cases h
  · cases h
theorem o_isN : O2 X (compareOp .Is) isND := OpR.imp op_isN fun x y H Q ⟨μ, S, a, b, d, S', r, pa, pb, h, k⟩ => by
  unfold isND at h
  split at h
  · cases h
    refine ⟨rep_non pb, ?_⟩
    rw [non_iff pa]
    exact k.bl r
  · cases h
theorem o_notN : O2 X (compareOp .IsNot) isNotND := OpR.imp op_notN fun x y H Q ⟨μ, S, a, b, d, S', r, pa, pb, h, k⟩ => by
  unfold isNotND at h
  split at h
  · cases h
    refine ⟨rep_non pb, ?_⟩
    rw [non_iff pa]
    exact k.bl r
  · cases h

/-! ### subscripts -/
def ixD : F2 := fun a b S => match a, b with
  | .str x, .int i => if x.length ≤ lim then (match atI x.cps.toList i with | some c => .ok (.str ⟨#[c]⟩) S | none => .bad) else .bad
  | a, .int i => match itsD S a with
    | some ds => (match atI ds i with | some d => .ok d S | none => .bad)
    | none => .bad
  | _, _ => .bad
theorem atI_rep {K : PySem.W.Frag} {μ : List Addr} {H : Hp} {ds : List D} {vs : List V} {i : Int} {d : D} (q : Reps K μ H ds vs) (h : atI ds i = some d) : ∃ v, atI vs i = some v ∧ Rep K μ H d v := by
  unfold atI at h ⊢
  rw [q.length]
  cases e : ixN ds.length i with
  | none => rw [e] at h; cases h
  | some j =>
    rw [e] at h
    exact q.get h
theorem o_ix : IxR X (rM2 X.K ixD) := fun value slice pins s σ H x y v u Q I rx ry h hs => by
  refine (ix_seq (X := X)) value slice pins s σ H x y v u Q I rx ry ?_ hs
  obtain ⟨μ, S, a, b, d, S', r, pa, pb, h, k⟩ := h
  unfold ixD at h
  split at h
  · rename_i z i
    split at h
    · rename_i hl
      split at h
      · rename_i c hc
        cases h
        exact .inr (.inr ⟨z, i, c, rep_str pa, rep_int pb, lim_line hl, hc, k.str r⟩)
      · cases h
    · cases h
  · rename_i i hns
    split at h
    · rename_i ds hd
      split at h
      · rename_i d' hd'
        cases h
        obtain ⟨p, vs, rfl, hs, q⟩ := its_rep r hd pa
        obtain ⟨w, h1, h2⟩ := atI_rep q hd'
        rcases hs with hs | hs
        · exact .inl ⟨p, vs, i, w, rfl, rep_int pb, hs, h1, k.same r h2⟩
        · exact .inr (.inl ⟨p, vs, i, w, rfl, rep_int pb, hs, h1, k.same r h2⟩)
      · cases h
    · cases h
  · cases h
end
end En
namespace En
open PySem L2
section
variable {X : Cx} {e a b c : Expr} {es : List Expr} {m ma mb mc : ME} {mt : MT} {pos : Pos} {ms : MA}
theorem pm_ix (ha : PM X a ma) (hb : PM X b mb) (hs : PlainIx b := by intro _ _; rfl) : PM X (.Subscript a b pos) (mBin ixD ma mb) := PE.imp (pe_ix o_ix ha hb hs) fun σ H Q h => two_then h
/-! ### slices -/
abbrev MO := Env → Sto → R (Option Int)
def tMO (K : PySem.W.Frag) (m : MO) : TO := fun σ H Q => ∃ μ S ρ o S', Rel K μ S H ∧ EnvR K μ H ρ σ ∧ m ρ S = .ok o S' ∧ ∀ μ' H', After μ H μ' H' → Rel K μ' S' H' → Q o H'
def mNoPart : MO := fun _ S => .ok none S
def mPart (m : ME) : MO := fun ρ S => (m ρ S).bind fun d S1 => match d with
  | .int i => .ok (some i) S1
  | _ => .bad
abbrev PMO (X : Cx) (e : Option Expr) (m : MO) : Prop := PO X e (tMO X.K m)
theorem PO.imp {e : Option Expr} {t t' : TO} (h : PO X e t) (w : ∀ σ H Q, t' σ H Q → t σ H Q) : PO X e t' := ⟨fun pins s σ H Q I q => h.run pins s σ H Q I (w σ H Q q)⟩
theorem pmo_none : PMO X none mNoPart := PO.imp po_none fun σ H Q h => by
  obtain ⟨μ, S, ρ, o, S', r, er, hm, k⟩ := h
  cases hm
  exact k μ H After.refl r
theorem pmo_some (he : PM X e m) : PMO X (some e) (mPart m) := PO.imp (po_some he) fun σ H Q h => by
  obtain ⟨μ, S, ρ, o, S', r, er, hm, k⟩ := h
  obtain ⟨d1, S1, h1, hm⟩ := R.bind_ok hm
  refine tM_then r er h1 fun μ1 x H1 a1 r1 e1 p1 => ?_
  split at hm
  · cases hm
    exact ⟨_, rep_int p1, k μ1 H1 a1 r1⟩
  · cases hm
def cutD (xs : List D) (lo hi : Option Int) : List D := (xs.drop (HT.sIx xs.length 0 lo)).take (HT.sIx xs.length xs.length hi - HT.sIx xs.length 0 lo)
def slD : D → Option Int → Option Int → Sto → R D := fun a lo hi S => match a with
  | .str z => if z.length ≤ lim then .ok (.str (cutS z lo hi)) S else .bad
  | .tup ds => .ok (.tup (cutD ds lo hi)) S
  | .rol ds => .ok (.loc S.length) (S ++ [.lst (cutD ds lo hi)])
  | .loc i => match S[i]? with
    | some (.lst ds) => .ok (.loc S.length) (S ++ [.lst (cutD ds lo hi)])
    | _ => .bad
  | _ => .bad
def mSl (m : ME) (l h : MO) : ME := fun ρ S => (m ρ S).bind fun d S1 => (l ρ S1).bind fun lo S2 => (h ρ S2).bind fun hi S3 => slD d lo hi S3
theorem SlR.imp {r r' : V → Option Int → Option Int → Hp → VK → Prop} (h : SlR X r) (w : ∀ x lo hi H Q, r' x lo hi H Q → r x lo hi H Q) : SlR X r' :=
  fun pins s σ H x v vl vu lo hi sl Q I rx hs pl pu q => h pins s σ H x v vl vu lo hi sl Q I rx hs pl pu (w x lo hi H Q q)
theorem cut_rep {K : PySem.W.Frag} {μ : List Addr} {H : Hp} {ds : List D} {vs : List V} {lo hi : Option Int} (q : Reps K μ H ds vs) : Reps K μ H (cutD ds lo hi) (cutV vs lo hi) := by
  unfold cutD cutV
  rw [q.length]
  exact (q.drop _).take _
theorem cut_all {ds : List D} {lo hi : Option Int} (h : HT.sIx ds.length 0 lo = 0 ∧ HT.sIx ds.length ds.length hi = ds.length) : cutD ds lo hi = ds := by
  unfold cutD
  rw [h.1, h.2]
  simp
def rMSl (K : PySem.W.Frag) : V → Option Int → Option Int → Hp → VK → Prop := fun x lo hi H Q => ∃ μ S a d S', Rel K μ S H ∧ Rep K μ H a x ∧ slD a lo hi S = .ok d S' ∧ Post K μ H d S' Q
theorem o_sl : SlR X (rMSl X.K) := SlR.imp (sl_str.or (sl_tupA.or sl_list)) fun x lo hi H Q ⟨μ, S, a, d, S', r, pa, h, k⟩ => by
  unfold slD at h
  split at h
  · split at h
    · rename_i hl
      cases h
      exact .inl ⟨_, rep_str pa, lim_line hl, k.str r⟩
    · cases h
  · cases h
    obtain ⟨p, vs, rfl, hs, q⟩ := rep_tup pa
    have el := q.length
    refine .inr (.inl ⟨p, vs, rfl, hs, fun hw => ?_, fun _ p2 hp => newTup r (cut_rep q) hp k⟩)
    rw [el] at hw
    rw [cut_all hw] at k
    exact k.same r pa
  · cases h
    obtain ⟨p, vs, rfl, hs, q⟩ := rep_rol pa
    exact .inr (.inr ⟨p, vs, rfl, hs, fun p2 hp => newLst r (cut_rep q) hp k⟩)
  · split at h
    · rename_i ds hi'
      cases h
      obtain ⟨p, vs, rfl, _, hs, q⟩ := r.lst hi' pa
      exact .inr (.inr ⟨p, vs, rfl, SqL.of hs, fun p2 hp => newLst r (cut_rep q) hp k⟩)
    · cases h
  · cases h
variable {lo hi : Option Expr} {ml mh : MO} {p2 : Pos}
theorem pm_sl (he : PM X e m) (hl : PMO X lo ml) (hu : PMO X hi mh) : PM X (.Subscript e (.Slice lo hi none p2) pos) (mSl m ml mh) := PE.imp (pe_slice o_sl he hl hu) fun σ H Q h => by
  obtain ⟨μ, S, ρ, d, S', r, er, hm, k⟩ := h
  obtain ⟨d1, S1, h1, hm⟩ := R.bind_ok hm
  obtain ⟨d2, S2, h2, hm⟩ := R.bind_ok hm
  obtain ⟨d3, S3, h3, hm⟩ := R.bind_ok hm
  refine tM_then r er h1 fun μ1 x H1 a1 r1 e1 p1 => ⟨μ1, S1, ρ, d2, S2, r1, e1, h2, fun μ2 H2 a2 r2 => ⟨μ2, S2, ρ, d3, S3, r2, e1.mono r1 a2, h3, fun μ3 H3 a3 r3 => ?_⟩⟩
  exact ⟨μ3, S3, d1, d, S', r3, (p1.mono r1 a2).mono r2 a3, hm, k.after ((a1.trans a2).trans a3)⟩
/-! ### isinstance -/
def tyN : D → Sto → Option String
  | .non, _ => some "NoneType"
  | .bl _, _ => some "bool"
  | .int _, _ => some "int"
  | .str _, _ => some "str"
  | .tup _, _ => some "tuple"
  | .rol _, _ => some "list"
  | .loc i, S => match S[i]? with
    | some (.lst _) => some "list"
    | some (.dct _) => some "dict"
    | none => none
theorem ty_rep {K : PySem.W.Frag} {μ : List Addr} {S : Sto} {H : Hp} {d : D} {v : V} {t : String} (r : Rel K μ S H) (q : Rep K μ H d v) (h : tyN d S = some t) : TyX K H v (.type t) := by
  cases d with
  | non => rw [rep_non q]; cases h; exact .base .non
  | bl _ => rw [rep_bl q]; cases h; exact .base (.bl _)
  | int _ => rw [rep_int q]; cases h; exact .base (.int _)
  | str _ => rw [rep_str q]; cases h; exact .base (.str _)
  | tup ds =>
    obtain ⟨a, vs, rfl, hs, _⟩ := rep_tup q
    cases h
    rcases hs with (hs | ⟨o, hs⟩) | ⟨o, its, n, hk, hc, _⟩
    · exact .base (.tup hs)
    · exact .fTuple hs
    · exact .kTuple hk hc
  | rol ds =>
    obtain ⟨a, vs, rfl, hs, _⟩ := rep_rol q
    cases h
    rcases hs with (hs | ⟨o, hs⟩) | ⟨o, its, n, hk, hc, _⟩
    · exact .base (.lst hs)
    · exact .base (.frz hs)
    · exact .kList hk hc
  | loc i =>
    unfold tyN at h
    split at h <;> first | (rename_i e; cases e) | skip
    rename_i i' _
    split at h
    · rename_i ds hi
      cases h
      obtain ⟨a, vs, rfl, _, hs, _⟩ := r.lst hi q
      exact .base (.lst hs)
    · rename_i ds hi
      cases h
      obtain ⟨a, vs, rfl, _, hs, _⟩ := r.dct hi q
      exact .base (.dK hs)
    · cases h
def isT (t T : String) : Bool := t == T || (t == "bool" && T == "int")
def isiD (T : String) : F1 := fun d S => match tyN d S with
  | some t => .ok (.bl (isT t T)) S
  | none => .bad
def tyNs : List String := ["NoneType", "bool", "int", "str", "tuple", "list", "dict"]
theorem tyN_mem {d : D} {S : Sto} {t : String} (h : tyN d S = some t) : t ∈ tyNs := by
  unfold tyN at h
  split at h <;> first | (cases h; simp [tyNs]) | skip
  split at h <;> cases h <;> simp [tyNs]
theorem pm_isi {T : String} {p q : Pos} {x : Str} (hT : (tyNs.all fun t => decide (kitB t T = some (isT t T))) = true) (hg : Gl X "isinstance") (hm : X.mg "isinstance" = none) (hgT : Gl X x) (hmT : X.mg x = none) (hvT : bootBuiltins x = some (.type T))
    (ha : PM X a ma) (hn : x ≠ "__name__" := by decide) (hdb : (x == ("__debug__" : Str)) = false := by decide)
    (he : starEach [a, .Name x q] X.env = (false, eval a X.env) :: starEach [.Name x q] X.env := by rfl) : PM X (.Call (.Name "isinstance" p) [a, .Name x q] [] pos) (mUn (isiD T) ma) :=
  PE.imp (pe_callB call_isi hg hm (by decide +kernel) (pa_cons ha (pa_cons (pe_bltn (v := .ty T) hgT hmT hvT rfl hn hdb) pa_nil) he) (he := he)) fun σ H Q h => by
    obtain ⟨μ, S, ρ, d, S', r, er, hm, k⟩ := h
    obtain ⟨d1, S1, h1, hm⟩ := R.bind_ok hm
    refine tM_then r er h1 fun μ1 x H1 a1 r1 e1 p1 => ?_
    unfold isiD at hm
    split at hm
    · rename_i t ht
      cases hm
      have ok := of_decide_eq_true (List.all_eq_true.mp hT t (tyN_mem ht))
      exact ⟨x, .ty T, .type t, .type T, _, rfl, .ty T, ty_rep r1 p1 ht, kit_ty ok, (k.after a1).bl r1⟩
    · cases hm
end
/-! ### built-ins by values -/
section
variable {X : Cx}
def lenD : MF := fun ds S => match ds with
  | [.str x] => if x.length ≤ lim then .ok (.int x.length) S else .bad
  | [.loc i] => match S[i]? with
    | some (.lst es) => .ok (.int es.length) S
    | some (.dct es) => .ok (.int es.length) S
    | none => .bad
  | [.tup es] => .ok (.int es.length) S
  | [.rol es] => .ok (.int es.length) S
  | _ => .bad
theorem reps1 {K : PySem.W.Frag} {μ : List Addr} {H : Hp} {d : D} {vs : List V} (h : Reps K μ H [d] vs) : ∃ v, vs = [v] ∧ Rep K μ H d v := by
  simp only [Reps] at h
  obtain ⟨v, r, rfl, h1, rfl⟩ := h
  exact ⟨v, rfl, h1⟩
theorem reps2 {K : PySem.W.Frag} {μ : List Addr} {H : Hp} {d e : D} {vs : List V} (h : Reps K μ H [d, e] vs) : ∃ v w, vs = [v, w] ∧ Rep K μ H d v ∧ Rep K μ H e w := by
  simp only [Reps] at h
  obtain ⟨v, r, rfl, h1, w, r', rfl, h2, rfl⟩ := h
  exact ⟨v, w, rfl, h1, h2⟩
theorem o_len : OC X (.builtin "len") lenD := CallR.imp (call_len.or call_lenD) fun xs H Q ⟨μ, S, ds, d, S', r, pa, h, k⟩ => by
  unfold lenD at h
  split at h
  · obtain ⟨v, rfl, p⟩ := reps1 pa
    split at h
    · rename_i hl
      cases h
      rw [rep_str p]
      exact .inl ⟨_, _, rfl, ⟨lim_line hl, rfl⟩, k.int r⟩
    · cases h
  · obtain ⟨v, rfl, p⟩ := reps1 pa
    split at h
    · rename_i es hi
      cases h
      obtain ⟨a, vs, rfl, _, hs, q⟩ := r.lst hi p
      have k' := k.int r
      rw [← q.length] at k'
      exact .inl ⟨_, _, rfl, .inl ⟨vs, SqL.of hs, rfl⟩, k'⟩
    · rename_i es hi
      cases h
      obtain ⟨a, vs, rfl, _, hs, q⟩ := r.dct hi p
      have k' := k.int r
      rw [← q.length] at k'
      exact .inr ⟨a, vs, rfl, hs, k'⟩
    · cases h
  · cases h
    obtain ⟨v, rfl, p⟩ := reps1 pa
    obtain ⟨a, vs, rfl, hs, q⟩ := rep_tup p
    have k' := k.int r
    rw [← q.length] at k'
    exact .inl ⟨_, _, rfl, .inr ⟨vs, hs, rfl⟩, k'⟩
  · cases h
    obtain ⟨v, rfl, p⟩ := reps1 pa
    obtain ⟨a, vs, rfl, hs, q⟩ := rep_rol p
    have k' := k.int r
    rw [← q.length] at k'
    exact .inl ⟨_, _, rfl, .inl ⟨vs, hs, rfl⟩, k'⟩
  · cases h
def intD : MF := fun ds S => match ds with
  | [.int i] => .ok (.int i) S
  | [.bl b] => .ok (.int (if b then 1 else 0)) S
  | _ => .bad
theorem o_int : OC X (.type "int") intD := CallR.imp call_int1 fun xs H Q ⟨μ, S, ds, d, S', r, pa, h, k⟩ => by
  unfold intD at h
  split at h
  · obtain ⟨v, rfl, p⟩ := reps1 pa
    cases h
    exact .inl ⟨_, by rw [rep_int p], k.int r⟩
  · obtain ⟨v, rfl, p⟩ := reps1 pa
    cases h
    exact .inr ⟨_, by rw [rep_bl p], k.int r⟩
  · cases h
def absD : MF := fun ds S => match ds with
  | [.int i] => .ok (.int (if i < 0 then -i else i)) S
  | _ => .bad
theorem o_abs : OC X (.builtin "abs") absD := CallR.imp call_abs fun xs H Q ⟨μ, S, ds, d, S', r, pa, h, k⟩ => by
  unfold absD at h
  split at h
  · obtain ⟨v, rfl, p⟩ := reps1 pa
    cases h
    exact ⟨_, by rw [rep_int p], k.int r⟩
  · cases h
def max2D : MF := fun ds S => match ds with
  | [.int i, .int j] => .ok (.int (if j > i then j else i)) S
  | _ => .bad
def min2D : MF := fun ds S => match ds with
  | [.int i, .int j] => .ok (.int (if j < i then j else i)) S
  | _ => .bad
theorem o_max2 (hc : X.calm = true) : OC X (.builtin "max") max2D := CallR.imp (call_max2 hc) fun xs H Q ⟨μ, S, ds, d, S', r, pa, h, k⟩ => by
  unfold max2D at h
  split at h
  · obtain ⟨v, w, rfl, p, q⟩ := reps2 pa
    cases h
    exact ⟨_, _, by rw [rep_int p, rep_int q], k.int r⟩
  · cases h
theorem o_min2 (hc : X.calm = true) : OC X (.builtin "min") min2D := CallR.imp (call_min2 hc) fun xs H Q ⟨μ, S, ds, d, S', r, pa, h, k⟩ => by
  unfold min2D at h
  split at h
  · obtain ⟨v, w, rfl, p, q⟩ := reps2 pa
    cases h
    exact ⟨_, _, by rw [rep_int p, rep_int q], k.int r⟩
  · cases h
def strD : MF := fun ds S => match ds with
  | [.int i] => if i.natAbs.log2 < 1920 then .ok (.str (toString i)) S else .bad
  | _ => .bad
theorem o_str : OC X (.type "str") strD := CallR.imp call_str_int fun xs H Q ⟨μ, S, ds, d, S', r, pa, h, k⟩ => by
  unfold strD at h
  split at h
  · obtain ⟨v, rfl, p⟩ := reps1 pa
    split at h
    · rename_i hl
      cases h
      exact ⟨_, by rw [rep_int p], hl, k.str r⟩
    · cases h
  · cases h
def divmodD : MF := fun ds S => match ds with
  | [.int i, .int j] => if 0 < j ∧ Builtin.divisionGoesByPylong i j = false then .ok (.tup [.int (i / j), .int (i % j)]) S else .bad
  | _ => .bad
theorem o_divmod : OC X (.builtin "divmod") divmodD := CallR.imp call_divmodW fun xs H Q ⟨μ, S, ds, d, S', r, pa, h, k⟩ => by
  unfold divmodD at h
  split at h
  · obtain ⟨v, w, rfl, p, q⟩ := reps2 pa
    split at h
    · rename_i hl
      cases h
      exact ⟨_, _, by rw [rep_int p, rep_int q], hl, fun p2 hp => newTup r (Reps.cons repI (Reps.cons repI Reps.nil)) hp k⟩
    · cases h
  · cases h
/-- tuple(x), list(x) -/
def tupleD : MF := fun ds S => match ds with
  | [d] => match itsD S d with
    | some es => .ok (.tup es) S
    | none => .bad
  | _ => .bad
theorem o_tuple : OC X (.type "tuple") tupleD := CallR.imp call_tuple_of fun xs H Q ⟨μ, S, ds, d, S', r, pa, h, k⟩ => by
  unfold tupleD at h
  split at h
  · rename_i d0
    obtain ⟨v, rfl, p⟩ := reps1 pa
    split at h
    · rename_i es hi
      cases h
      obtain ⟨a, vs, rfl, hs, q⟩ := its_rep r hi p
      refine ⟨a, vs, rfl, ?_⟩
      rcases hs with hs | hs
      · exact .inl ⟨hs, fun p2 hp => newTup r q hp k⟩
      · exact .inr ⟨hs, k.same r (by simp only [Rep]; exact ⟨a, vs, rfl, hs, q⟩)⟩
    · cases h
  · cases h
def listD : MF := fun ds S => match ds with
  | [d] => match itsD S d with
    | some es => .ok (.loc S.length) (S ++ [.lst es])
    | none => .bad
  | _ => .bad
theorem o_list : OC X (.type "list") listD := CallR.imp call_list_of fun xs H Q ⟨μ, S, ds, d, S', r, pa, h, k⟩ => by
  unfold listD at h
  split at h
  · rename_i d0
    obtain ⟨v, rfl, p⟩ := reps1 pa
    split at h
    · rename_i es hi
      cases h
      obtain ⟨a, vs, rfl, hs, q⟩ := its_rep r hi p
      exact ⟨a, vs, rfl, hs, fun p2 hp => newLst r q hp k⟩
    · cases h
  · cases h
/-- ints, bools of a list -/
def ints? : List D → Option (List Int)
  | [] => some []
  | .int i :: ds => (ints? ds).map (i :: ·)
  | _ :: _ => none
def bls? : List D → Option (List Bool)
  | [] => some []
  | .bl i :: ds => (bls? ds).map (i :: ·)
  | _ :: _ => none
theorem ints_rep {K : PySem.W.Frag} {μ : List Addr} {H : Hp} : ∀ {ds : List D} {vs : List V} {ns : List Int}, ints? ds = some ns → Reps K μ H ds vs → vs = ns.map V.int
  | [], vs, ns, h, q => by simp only [Reps] at q; subst q; cases h; rfl
  | d :: ds, vs, ns, h, q => by
    simp only [Reps] at q
    obtain ⟨v, r, rfl, q1, q2⟩ := q
    cases d with
    | int i =>
      simp only [ints?] at h
      cases e : ints? ds with
      | none => rw [e] at h; cases h
      | some ms => rw [e] at h; cases h; rw [rep_int q1, ints_rep e q2]; rfl
    | _ => cases h
theorem bls_rep {K : PySem.W.Frag} {μ : List Addr} {H : Hp} : ∀ {ds : List D} {vs : List V} {ns : List Bool}, bls? ds = some ns → Reps K μ H ds vs → vs = ns.map V.bl
  | [], vs, ns, h, q => by simp only [Reps] at q; subst q; cases h; rfl
  | d :: ds, vs, ns, h, q => by
    simp only [Reps] at q
    obtain ⟨v, r, rfl, q1, q2⟩ := q
    cases d with
    | bl i =>
      simp only [bls?] at h
      cases e : bls? ds with
      | none => rw [e] at h; cases h
      | some ms => rw [e] at h; cases h; rw [rep_bl q1, bls_rep e q2]; rfl
    | _ => cases h
theorem reps_ints {K : PySem.W.Frag} {μ : List Addr} {H : Hp} : ∀ ns : List Int, Reps K μ H (ns.map D.int) (ns.map V.int)
  | [] => Reps.nil
  | n :: ns => Reps.cons repI (reps_ints ns)
/-- the items of a list alone -/
def lstD (S : Sto) : D → Option (List D)
  | .rol ds => some ds
  | .loc i => match S[i]? with
    | some (.lst ds) => some ds
    | _ => none
  | _ => none
theorem lst_rep {K : PySem.W.Frag} {μ : List Addr} {S : Sto} {H : Hp} (r : Rel K μ S H) {d : D} {ds : List D} {v : V} (h : lstD S d = some ds) (q : Rep K μ H d v) : ∃ p vs, v = .ref p ∧ SqL K H p vs ∧ Reps K μ H ds vs := by
  cases d with
  | rol es => cases h; obtain ⟨a, vs, rfl, hs, q⟩ := rep_rol q; exact ⟨a, vs, rfl, hs, q⟩
  | loc i =>
    unfold lstD at h
    simp only at h
    split at h
    · rename_i es hi
      cases h
      obtain ⟨a, vs, rfl, _, h1, q1⟩ := r.lst hi q
      exact ⟨a, vs, rfl, SqL.of h1, q1⟩
    · cases h
  | _ => cases h
def anyD : MF := fun ds S => match ds with
  | [d] => match (lstD S d).bind bls? with
    | some bs => .ok (.bl (bs.any id)) S
    | none => .bad
  | _ => .bad
def allD : MF := fun ds S => match ds with
  | [d] => match (lstD S d).bind bls? with
    | some bs => .ok (.bl (bs.all id)) S
    | none => .bad
  | _ => .bad
def sumD : MF := fun ds S => match ds with
  | [d] => match (lstD S d).bind ints? with
    | some bs => .ok (.int bs.sum) S
    | none => .bad
  | _ => .bad
theorem lb_rep {K : PySem.W.Frag} {μ : List Addr} {S : Sto} {H : Hp} (r : Rel K μ S H) {d : D} {bs : List Bool} {v : V} (h : (lstD S d).bind bls? = some bs) (q : Rep K μ H d v) : ∃ p, v = .ref p ∧ SqL K H p (bs.map V.bl) := by
  cases e : lstD S d with
  | none => rw [e] at h; cases h
  | some es =>
    rw [e] at h
    obtain ⟨p, vs, rfl, hs, q⟩ := lst_rep r e q
    exact ⟨p, rfl, by rw [← bls_rep h q]; exact hs⟩
theorem li_rep {K : PySem.W.Frag} {μ : List Addr} {S : Sto} {H : Hp} (r : Rel K μ S H) {d : D} {bs : List Int} {v : V} (h : (lstD S d).bind ints? = some bs) (q : Rep K μ H d v) : ∃ p, v = .ref p ∧ SqL K H p (bs.map V.int) := by
  cases e : lstD S d with
  | none => rw [e] at h; cases h
  | some es =>
    rw [e] at h
    obtain ⟨p, vs, rfl, hs, q⟩ := lst_rep r e q
    exact ⟨p, rfl, by rw [← ints_rep h q]; exact hs⟩
theorem o_any (hc : X.calm = true) : OC X (.builtin "any") anyD := CallR.imp (cr_any hc) fun xs H Q ⟨μ, S, ds, d, S', r, pa, h, k⟩ => by
  unfold anyD at h
  split at h
  · obtain ⟨v, rfl, p⟩ := reps1 pa
    split at h
    · rename_i bs hb
      cases h
      obtain ⟨a, rfl, hs⟩ := lb_rep r hb p
      exact ⟨a, bs, rfl, hs, k.bl r⟩
    · cases h
  · cases h
theorem o_all (hc : X.calm = true) : OC X (.builtin "all") allD := CallR.imp (cr_all hc) fun xs H Q ⟨μ, S, ds, d, S', r, pa, h, k⟩ => by
  unfold allD at h
  split at h
  · obtain ⟨v, rfl, p⟩ := reps1 pa
    split at h
    · rename_i bs hb
      cases h
      obtain ⟨a, rfl, hs⟩ := lb_rep r hb p
      exact ⟨a, bs, rfl, hs, k.bl r⟩
    · cases h
  · cases h
theorem o_sum (hc : X.calm = true) : OC X (.builtin "sum") sumD := CallR.imp (cr_sum hc) fun xs H Q ⟨μ, S, ds, d, S', r, pa, h, k⟩ => by
  unfold sumD at h
  split at h
  · obtain ⟨v, rfl, p⟩ := reps1 pa
    split at h
    · rename_i bs hb
      cases h
      obtain ⟨a, rfl, hs⟩ := li_rep r hb p
      exact ⟨a, bs, rfl, hs, k.int r⟩
    · cases h
  · cases h
/-! ### methods -/
def appD : D → MF := fun a ds S => match a, ds with
  | .loc i, [d] => match S[i]? with
    | some (.lst es) => if es.length < lim then .ok .non (S.set i (.lst (es ++ [d]))) else .bad
    | _ => .bad
  | _, _ => .bad
def extD : D → MF := fun a ds S => match a, ds with
  | .loc i, [.loc j] => match S[i]?, S[j]? with
    | some (.lst es), some (.lst fs) => if es.length + fs.length ≤ lim then .ok .non (S.set i (.lst (es ++ fs))) else .bad
    | _, _ => .bad
  | _, _ => .bad
theorem setLst {K : PySem.W.Frag} {μ : List Addr} {S : Sto} {H : Hp} {i : Nat} {p : Addr} {es : List D} {vs : List V} {d : D} {v : V} {Q : VK} (r : Rel K μ S H) (hi : μ[i]? = some p) (q : Reps K μ H es vs) (k : Post K μ H d (S.set i (.lst es)) Q) (hd : Rep K μ H d v) : Q v (upd H p (.lst vs)) := by
  have A : After μ H μ (upd H p (.lst vs)) := After.mut (List.mem_of_getElem? hi)
  exact k μ _ _ A (r.put hi ⟨vs, upd_same, q.mono r A⟩) (hd.mono r A)
theorem o_append : MtM X "list.append" (rMM X.K appD) := fun pins s σ H x xs v us Q I rx rs h => by
  refine (mt_append (X := X)) pins s σ H x xs v us Q I rx rs ?_
  obtain ⟨μ, S, a, ds, d, S', r, pa, ps, h, k⟩ := h
  unfold appD at h
  split at h
  · obtain ⟨w, rfl, pw⟩ := reps1 ps
    split at h
    · rename_i es hi
      split at h
      · rename_i hl
        cases h
        obtain ⟨p, vs, rfl, hp, h1, q⟩ := r.lst hi pa
        exact ⟨p, vs, w, rfl, rfl, h1, by rw [q.length]; exact lim_lt hl, setLst r hp (q.append (Reps.cons pw Reps.nil)) k repN⟩
      · cases h
    · cases h
  · cases h
theorem o_extend : MtM X "list.extend" (rMM X.K extD) := fun pins s σ H x xs v us Q I rx rs h => by
  refine (mt_extend (X := X)) pins s σ H x xs v us Q I rx rs ?_
  obtain ⟨μ, S, a, ds, d, S', r, pa, ps, h, k⟩ := h
  unfold extD at h
  split at h
  · obtain ⟨w, rfl, pw⟩ := reps1 ps
    split at h
    · rename_i es fs hi hj
      split at h
      · rename_i hl
        cases h
        obtain ⟨p, vs, rfl, hp, h1, q⟩ := r.lst hi pa
        obtain ⟨p', ws, rfl, _, h2, q'⟩ := r.lst hj pw
        exact ⟨p, p', vs, ws, rfl, rfl, h1, h2, by rw [q.length, q'.length]; exact lim_line hl, setLst r hp (q.append q') k repN⟩
      · cases h
    · cases h
  · cases h
end
end En
namespace En
open PySem L2
/-! ### methods of built-ins -/
def tyM (T : String) (d : D) (S : Sto) : Bool := match d with
  | .str _ => T == "str"
  | .int _ => T == "int"
  | .rol _ => T == "list"
  | .loc i => match S[i]? with
    | some (.lst _) => T == "list"
    | some (.dct _) => T == "dict"
    | none => false
  | _ => false
theorem tyM_rep {K : PySem.W.Frag} {μ : List Addr} {S : Sto} {H : Hp} {d : D} {v : V} {T : String} (r : Rel K μ S H) (q : Rep K μ H d v) (h : tyM T d S = true) : tyV K T v H := by
  cases d with
  | str _ => rw [rep_str q]; exact eq_of_beq h
  | int _ => rw [rep_int q]; exact eq_of_beq h
  | rol ds =>
    obtain ⟨a, vs, rfl, hs, _⟩ := rep_rol q
    exact .inl ⟨eq_of_beq h, vs, hs⟩
  | loc i =>
    unfold tyM at h
    simp only at h
    split at h
    · rename_i ds hi
      obtain ⟨a, vs, rfl, _, hs, _⟩ := r.lst hi q
      exact .inl ⟨eq_of_beq h, vs, SqL.of hs⟩
    · rename_i ds hi
      obtain ⟨a, vs, rfl, _, hs, _⟩ := r.dct hi q
      exact .inr (.inr (.inl ⟨eq_of_beq h, .inl ⟨vs, hs⟩⟩))
    · cases h
  | _ => cases h
def mMeth (T : String) (g : D → MF) (m : ME) (u : MA) : ME := fun ρ S => (m ρ S).bind fun d S1 => if tyM T d S1 = true then (u ρ S1).bind fun ds S2 => g d ds S2 else .bad
section
variable {X : Cx} {e o : Expr} {es : List Expr} {m mo : ME} {ms : MA} {name : Str} {apos cpos pos : Pos} {T id : String} {g : D → MF}
theorem pm_meth (pa : PlainAttrs T) (slot : Slot T name id) (hty : typeOf (.builtin id) = pure (.type "method_descriptor")) (hm : OM X id g) (ho : PM X o mo) (ha : PMA X (e :: es) ms)
    (hbase : attributeBase o name X.env (eval o X.env) = eval o X.env := by rfl)
    (hfew : ((backTo cpos (starEach (e :: es) X.env)).all (fun x => !x.1) && (backToKw cpos (keywordEach [] X.env)).all (fun x => x.1.isSome)
      && decide ((e :: es).length + ([] : List Keyword).length + (if ([] : List Keyword).isEmpty then 0 else 1) < 30)) = true := by rfl)
    (hline : (apos.endLine == cpos.line) = true := by rfl) (hs : starEach (e :: es) X.env = (false, eval e X.env) :: starEach es X.env := by rfl) (hplain : (backTo cpos (starEach es X.env)).any (·.1) = false := by rfl) :
    PM X (.Call (.Attribute o name apos) (e :: es) [] cpos) (mMeth T g mo ms) := PE.imp (pe_bm pa slot hty hm ho ha hbase hfew hline hs hplain) fun σ H Q h => by
  obtain ⟨μ, S, ρ, d, S', r, er, hm, k⟩ := h
  obtain ⟨d1, S1, h1, hm⟩ := R.bind_ok hm
  refine tM_then r er h1 fun μ1 x H1 a1 r1 e1 p1 => ?_
  split at hm
  · rename_i ht
    obtain ⟨d2, S2, h2, hm⟩ := R.bind_ok hm
    refine ⟨tyM_rep r1 p1 ht, tMA_then r1 e1 h2 fun μ2 vs H2 a2 r2 e2 p2 => ?_⟩
    exact ⟨μ2, S2, d1, d2, d, S', r2, p1.mono r1 a2, p2, hm, k.after (a1.trans a2)⟩
  · cases hm
theorem pm_append (ho : PM X o mo) (ha : PM X e m) (hbase : attributeBase o "append" X.env (eval o X.env) = eval o X.env := by rfl)
    (hfew : ((backTo cpos (starEach [e] X.env)).all (fun x => !x.1) && (backToKw cpos (keywordEach [] X.env)).all (fun x => x.1.isSome)
      && decide ([e].length + ([] : List Keyword).length + (if ([] : List Keyword).isEmpty then 0 else 1) < 30)) = true := by rfl)
    (hline : (apos.endLine == cpos.line) = true := by rfl) (hs : starEach [e] X.env = (false, eval e X.env) :: starEach [] X.env := by rfl) :
    PM X (.Call (.Attribute o "append" apos) [e] [] cpos) (mMeth "list" appD mo (mCons m mNil)) := pm_meth PySem.F.plainAttrs_list PySem.F.slot_list_append PySem.F.type_list_append o_append ho (pma_cons ha pma_nil hs) hbase hfew hline hs
theorem pm_extend (ho : PM X o mo) (ha : PM X e m) (hbase : attributeBase o "extend" X.env (eval o X.env) = eval o X.env := by rfl)
    (hfew : ((backTo cpos (starEach [e] X.env)).all (fun x => !x.1) && (backToKw cpos (keywordEach [] X.env)).all (fun x => x.1.isSome)
      && decide ([e].length + ([] : List Keyword).length + (if ([] : List Keyword).isEmpty then 0 else 1) < 30)) = true := by rfl)
    (hline : (apos.endLine == cpos.line) = true := by rfl) (hs : starEach [e] X.env = (false, eval e X.env) :: starEach [] X.env := by rfl) :
    PM X (.Call (.Attribute o "extend" apos) [e] [] cpos) (mMeth "list" extD mo (mCons m mNil)) := pm_meth PySem.F.plainAttrs_list PySem.F.slot_list_extend PySem.F.type_list_extend o_extend ho (pma_cons ha pma_nil hs) hbase hfew hline hs
end

/-! ### targets -/
def Same (js : List Nat) (σ σ' : L2.St) : Prop := σ'.length = σ.length ∧ ∀ i, i ∉ js → σ'[i]? = σ[i]?
abbrev MG := D → Env → Sto → R Env
def tGM (K : PySem.W.Frag) (js : List Nat) (m : MG) : TG := fun v σ H Q => ∃ μ S ρ d ρ' S', Rel K μ S H ∧ EnvR K μ H ρ σ ∧ Rep K μ H d v ∧ m d ρ S = .ok ρ' S' ∧ ∀ μ' σ' H', After μ H μ' H' → Rel K μ' S' H' → EnvR K μ' H' ρ' σ' → Same js σ σ' → Q σ' H'
abbrev MGs := List D → Env → Sto → R Env
def tGMs (K : PySem.W.Frag) (js : List Nat) (m : MGs) : TGs := fun vs σ H Q => ∃ μ S ρ ds ρ' S', Rel K μ S H ∧ EnvR K μ H ρ σ ∧ Reps K μ H ds vs ∧ m ds ρ S = .ok ρ' S' ∧ ∀ μ' σ' H', After μ H μ' H' → Rel K μ' S' H' → EnvR K μ' H' ρ' σ' → Same js σ σ' → Q σ' H'
abbrev PMG (X : Cx) (tg : Expr) (js : List Nat) (m : MG) : Prop := PG X tg (tGM X.K js m)
abbrev PMGs (X : Cx) (tg : List Expr) (js : List Nat) (m : MGs) : Prop := PGs X tg (tGMs X.K js m)
theorem PG.imp {X : Cx} {e : Expr} {t t' : TG} (h : PG X e t) (w : ∀ v σ H Q, t' v σ H Q → t v σ H Q) : PG X e t' := ⟨fun pins s σ H v u Q I rv q => h.run pins s σ H v u Q I rv (w v σ H Q q)⟩
theorem PGs.imp {X : Cx} {e : List Expr} {t t' : TGs} (h : PGs X e t) (w : ∀ v σ H Q, t' v σ H Q → t v σ H Q) : PGs X e t' := ⟨fun pins s σ H v u Q I rv q => h.run pins s σ H v u Q I rv (w v σ H Q q)⟩
theorem same_refl {js : List Nat} {σ : L2.St} : Same js σ σ := ⟨rfl, fun _ _ => rfl⟩
theorem same_set {i : Nat} {v : Option V} {σ : L2.St} : Same [i] σ (σ.set i v) := ⟨by simp, fun j h => by rw [List.getElem?_set_ne (fun e => h (by simp [e]))]⟩
theorem same_app {js ks : List Nat} {σ σ1 σ2 : L2.St} (a : Same js σ σ1) (b : Same ks σ1 σ2) : Same (js ++ ks) σ σ2 := ⟨b.1.trans a.1, fun i h => by
  rw [List.mem_append] at h
  rw [b.2 i fun z => h (.inr z), a.2 i fun z => h (.inl z)]⟩
theorem wipe_same {js : List Nat} {σ σ' : L2.St} (a : Same js σ σ') : ∀ {vs : List Nat}, (∀ j ∈ js, j ∈ vs) → wipe σ' vs = wipe σ vs := fun {vs} h => by
  have key : ∀ (σ : L2.St) (vs : List Nat) (i : Nat), i < σ.length → (wipe σ vs)[i]? = if i ∈ vs then some none else σ[i]? := fun σ vs i hi => by
    induction vs with
    | nil => simp [wipe]
    | cons v vs ih =>
      unfold wipe
      by_cases e : v = i
      · subst e
        rw [List.getElem?_set_self (by rw [wipe_length]; exact hi)]
        simp
      · rw [List.getElem?_set_ne e, ih]
        have : (i = v ∨ i ∈ vs) ↔ i ∈ vs := ⟨fun z => z.elim (fun q => absurd q.symm e) id, .inr⟩
        simp only [List.mem_cons, this]
  refine List.ext_getElem? fun i => ?_
  by_cases hi : i < σ.length
  · rw [key σ' vs i (by rw [a.1]; exact hi), key σ vs i hi]
    split
    · rfl
    · rename_i hn
      exact a.2 i fun z => hn (h i z)
  · rw [List.getElem?_eq_none (by rw [wipe_length, a.1]; omega), List.getElem?_eq_none (by rw [wipe_length]; omega)]
def gmName (i : Nat) : MG := fun d ρ S => .ok (ρ.set i (some d)) S
def gmNil : MGs := fun ds ρ S => match ds with
  | [] => .ok ρ S
  | _ => .bad
def gmCons (m : MG) (u : MGs) : MGs := fun ds ρ S => match ds with
  | d :: r => (m d ρ S).bind fun ρ1 S1 => u r ρ1 S1
  | [] => .bad
def gmTup (n : Nat) (u : MGs) : MG := fun d ρ S => match d with
  | .tup ds => if ds.length = n then u ds ρ S else .bad
  | _ => .bad
section
variable {X : Cx} {pos : Pos}
theorem pmg_of_name {i : Nat} {tg : Expr} (h : PG X tg (gName i)) : PMG X tg [i] (gmName i) := PG.imp h fun v σ H Q h => by
  obtain ⟨μ, S, ρ, d, ρ', S', r, er, p, hm, k⟩ := h
  cases hm
  exact k μ _ H After.refl r (er.set i p) same_set
theorem pmg_name (i : Nat) {x : Str} (hN : X.N.Nodup) (hi : X.N[i]? = some x := by rfl) (hx : Loc X.env.scope x := by first | exact Or.inl rfl | exact Or.inr rfl) (hf : X.fn x = true ∨ X.env.scope.names.lookup x = some .local := by first | exact .inl rfl | exact .inr rfl) : PMG X (.Name x pos) [i] (gmName i) := pmg_of_name (pg_name hN hi hx hf)
theorem pmgs_nil : PMGs X [] [] gmNil := PGs.imp pgs_nil fun vs σ H Q h => by
  obtain ⟨μ, S, ρ, ds, ρ', S', r, er, p, hm, k⟩ := h
  unfold gmNil at hm
  split at hm
  · cases hm
    simp only [Reps] at p
    exact ⟨p, k μ _ H After.refl r er same_refl⟩
  · cases hm
theorem pmgs_cons {e : Expr} {es : List Expr} {m : MG} {u : MGs} {js ks : List Nat} (h1 : PMG X e js m) (h2 : PMGs X es ks u)
    (hs : (assignEach (e :: es) X.env).map (·.2) = assign e X.env :: (assignEach es X.env).map (·.2) := by rfl) : PMGs X (e :: es) (js ++ ks) (gmCons m u) := PGs.imp (pgs_cons h1 h2 hs) fun vs σ H Q h => by
  obtain ⟨μ, S, ρ, ds, ρ', S', r, er, p, hm, k⟩ := h
  unfold gmCons at hm
  split at hm
  · rename_i d rr
    obtain ⟨ρ1, S1, h1, hm⟩ := R.bind_ok hm
    simp only [Reps] at p
    obtain ⟨v, vr, rfl, p1, p2⟩ := p
    refine ⟨v, vr, rfl, μ, S, ρ, d, ρ1, S1, r, er, p1, h1, fun μ1 σ1 H1 a1 r1 e1 s1 => ?_⟩
    exact ⟨μ1, S1, ρ1, rr, ρ', S', r1, e1, p2.mono r a1, hm, fun μ2 σ2 H2 a2 r2 e2 s2 => k μ2 σ2 H2 (a1.trans a2) r2 e2 (same_app s1 s2)⟩
  · cases hm
theorem pmg_tup {es : List Expr} {kk : Nat} {u : MGs} {n : Nat} {js : List Nat} (hc : X.calm = true) (h : PMGs X es js u) (hn : (assignEach es X.env).length = n := by rfl) (hst : (assignEach es X.env).findIdx? (·.1) = none := by rfl) : PMG X (.Tuple es kk pos) js (gmTup n u) := PG.imp (pg_tup hc h hn hst) fun v σ H Q h => by
  obtain ⟨μ, S, ρ, d, ρ', S', r, er, p, hm, k⟩ := h
  unfold gmTup at hm
  split at hm
  · split at hm
    · rename_i hl
      obtain ⟨a, vs, rfl, hs, q⟩ := rep_tup p
      exact ⟨a, vs, rfl, hs, by rw [q.length]; exact hl, μ, S, ρ, _, ρ', S', r, er, q, hm, k⟩
    · cases hm
  · cases hm
/-- o[i] = .. -/
def setD (o i v : D) (S : Sto) : R Unit := match o, i with
  | .loc l, .int k => match S[l]? with
    | some (.lst es) => match ixN es.length k with
      | some j => .ok () (S.set l (.lst (es.set j v)))
      | none => .bad
    | _ => .bad
  | _, _ => .bad
def gmSub (mo mi : ME) : MG := fun d ρ S => (mo ρ S).bind fun o S1 => (mi ρ S1).bind fun i S2 => (setD o i d S2).bind fun _ S3 => .ok ρ S3
theorem pmg_sub {o i : Expr} {mo mi : ME} (ho : PM X o mo) (hi : PM X i mi) (ha : ∀ v, assign (.Subscript o i pos) X.env v = (do
      let ov ← holding [v] (eval o X.env)
      let iv ← holding [v, ov] (eval i X.env)
      standAt pos
      holding [v, ov, iv] (setItem ov iv v)
      release [v, ov, iv] []) := by intro _; rfl) : PMG X (.Subscript o i pos) [] (gmSub mo mi) := PG.imp (pg_sub ho hi set_list ha) fun v σ H Q h => by
  obtain ⟨μ, S, ρ, d, ρ', S', r, er, p, hm, k⟩ := h
  obtain ⟨d1, S1, h1, hm⟩ := R.bind_ok hm
  obtain ⟨d2, S2, h2, hm⟩ := R.bind_ok hm
  obtain ⟨d3, S3, h3, hm⟩ := R.bind_ok hm
  cases hm
  refine tM_then r er h1 fun μ1 x H1 a1 r1 e1 p1 => tM_then r1 e1 h2 fun μ2 y H2 a2 r2 e2 p2 => ?_
  have p' := (p.mono r a1).mono r1 a2
  have p1' := p1.mono r1 a2
  unfold setD at h3
  split at h3
  · split at h3
    · rename_i es hl
      split at h3
      · rename_i j hj
        cases h3
        obtain ⟨a, vs, rfl, hp, hs, q⟩ := r2.lst hl p1'
        refine ⟨a, vs, _, j, rfl, rep_int p2, hs, by rw [q.length]; exact hj, ?_⟩
        have A : After μ2 H2 μ2 (upd H2 a (.lst (vs.set j v))) := After.mut (List.mem_of_getElem? hp)
        have q' := q.set j p'
        exact k μ2 σ _ ((a1.trans a2).trans A) (r2.put hp ⟨_, upd_same, q'.mono r2 A⟩) (e2.mono r2 A) same_refl
      · cases h3
    · cases h3
  · cases h3
end

/-! ### statements -/
section
variable {X : Cx} {e c tg : Expr} {m : ME} {g : MG} {js : List Nat} {pos : Pos} {st : Stmt} {rest a b : List Stmt} {ms mr ma mb : MS} {mt : MT}
def sAsg (m : ME) (g : MG) : MS := fun ρ S => (m ρ S).bind fun d S1 => (g d ρ S1).bind fun ρ1 S2 => .ok (.next ρ1) S2
theorem asg_then {K : PySem.W.Frag} {D : Ends} {σ : L2.St} {H : Hp} (h : tMS K (sAsg m g) D σ H) : tAsg (tM K m) (tGM K js g) D σ H := by
  obtain ⟨μ, S, ρ, o, S', r, er, hm, k⟩ := h
  obtain ⟨d1, S1, h1, hm⟩ := R.bind_ok hm
  obtain ⟨ρ1, S2, h2, hm⟩ := R.bind_ok hm
  cases hm
  refine tM_then r er h1 fun μ1 x H1 a1 r1 e1 p1 => ⟨μ1, S1, ρ, d1, ρ1, _, r1, e1, p1, h2, fun μ2 σ2 H2 a2 r2 e2 _ => k μ2 σ2 H2 (a1.trans a2) r2 e2⟩
theorem pms_asg (he : PM X e m) (hg : PMG X tg js g) (hs : swapsWithSole [tg] e pos.line X.env = pure false := by rfl) (hw : swappedStores [tg] e X.env = pure none := by rfl)
    (h1 : (assignEach [tg] X.env).map (·.2) = [assign tg X.env] := by rfl) : PMS X (.Assign [tg] e pos) (sAsg m g) := PS.imp (ps_asg he hg hs hw h1) fun D σ H h => asg_then h
theorem pms_set (i : Nat) {x : Str} {pos' : Pos} (he : PM X e m) (hN : X.N.Nodup) (hi : X.N[i]? = some x := by rfl) (hx : Loc X.env.scope x := by first | exact Or.inl rfl | exact Or.inr rfl) (hs : swapsWith e (some (.Name x pos')) pos.line X.env = pure false := by rfl) (hf : X.fn x = true ∨ X.env.scope.names.lookup x = some .local := by first | exact .inl rfl | exact .inr rfl) :
    PMS X (.Assign [.Name x pos'] e pos) (sAsg m (gmName i)) := PS.imp (ps_set hN hi hx he hs hf) fun D σ H h => by
  obtain ⟨μ, S, ρ, o, S', r, er, hm, k⟩ := h
  obtain ⟨d1, S1, h1, hm⟩ := R.bind_ok hm
  cases hm
  refine tM_then r er h1 fun μ1 x H1 a1 r1 e1 p1 => k μ1 _ H1 a1 r1 (e1.set i p1)
def sExpr (m : ME) : MS := fun ρ S => (m ρ S).bind fun _ S1 => .ok (.next ρ) S1
theorem pms_expr (he : PM X e m) (hs : swapsWith e none pos.line X.env = pure false := by rfl) : PMS X (.Expr e pos) (sExpr m) := PS.imp (ps_expr he hs) fun D σ H h => by
  obtain ⟨μ, S, ρ, o, S', r, er, hm, k⟩ := h
  obtain ⟨d1, S1, h1, hm⟩ := R.bind_ok hm
  cases hm
  exact tM_then r er h1 fun μ1 x H1 a1 r1 e1 p1 => k μ1 _ H1 a1 r1 e1
def sRet (m : ME) : MS := fun ρ S => (m ρ S).bind fun d S1 => .ok (.ret d) S1
theorem pms_ret (he : PM X e m) : PMS X (.Return (some e) pos) (sRet m) := PS.imp (ps_ret he) fun D σ H h => by
  obtain ⟨μ, S, ρ, o, S', r, er, hm, k⟩ := h
  obtain ⟨d1, S1, h1, hm⟩ := R.bind_ok hm
  cases hm
  exact tM_then r er h1 fun μ1 x H1 a1 r1 e1 p1 => k μ1 _ H1 a1 r1 p1
def sRetN : MS := fun _ S => .ok (.ret .non) S
theorem pms_retN : PMS X (.Return none pos) sRetN := PS.imp ps_retN fun D σ H h => by
  obtain ⟨μ, S, ρ, o, S', r, er, hm, k⟩ := h
  cases hm
  exact k μ _ H After.refl r repN
def sIf (t : MT) (u v : MS) : MS := fun ρ S => (t ρ S).bind fun b S1 => if b = true then u ρ S1 else v ρ S1
theorem pms_if (hc : PMT X c mt) (ha : PMSs X a ma) (hb : PMSs X b mb) : PMS X (.If c a b pos) (sIf mt ma mb) := PS.imp (ps_if hc ha hb) fun D σ H h => by
  obtain ⟨μ, S, ρ, o, S', r, er, hm, k⟩ := h
  obtain ⟨d1, S1, h1, hm⟩ := R.bind_ok hm
  refine tMT_then r er h1 fun μ1 H1 a1 r1 e1 => ?_
  cases d1 with
  | true =>
    rw [if_pos rfl] at hm ⊢
    exact ⟨μ1, S1, ρ, o, S', r1, e1, hm, k.after a1⟩
  | false =>
    rw [if_neg Bool.false_ne_true] at hm ⊢
    exact ⟨μ1, S1, ρ, o, S', r1, e1, hm, k.after a1⟩
def sNext : MS := fun ρ S => .ok (.next ρ) S
def sBrk : MS := fun ρ S => .ok (.brk ρ) S
def sCont : MS := fun ρ S => .ok (.cont ρ) S
def sBad : MS := fun _ _ => .bad
def sSeq (u v : MS) : MS := fun ρ S => (u ρ S).bind fun o S1 => match o with
  | .next ρ1 => v ρ1 S1
  | o => .ok o S1
theorem next_then {K : PySem.W.Frag} {D : Ends} {σ : L2.St} {H : Hp} (h : tMS K sNext D σ H) : D.nx σ H := by
  obtain ⟨μ, S, ρ, o, S', r, er, hm, k⟩ := h
  cases hm
  exact k μ _ H After.refl r er
theorem pms_pass : PMS X (.Pass pos) sNext := PS.imp ps_pass fun D σ H h => next_then h
theorem pmss_nil : PMSs X [] sNext := PSs.imp pss_nil fun D σ H h => next_then h
theorem pms_break : PMS X (.Break pos) sBrk := PS.imp ps_break fun D σ H h => by
  obtain ⟨μ, S, ρ, o, S', r, er, hm, k⟩ := h
  cases hm
  exact k μ _ H After.refl r er
theorem pms_continue : PMS X (.Continue pos) sCont := PS.imp ps_continue fun D σ H h => by
  obtain ⟨μ, S, ρ, o, S', r, er, hm, k⟩ := h
  cases hm
  exact k μ _ H After.refl r er
theorem pms_never : PMS X st sBad := PS.imp ps_never fun D σ H h => by
  obtain ⟨μ, S, ρ, o, S', r, er, hm, k⟩ := h
  cases hm
theorem pmss_cons (h1 : PMS X st ms) (h2 : PMSs X rest mr) : PMSs X (st :: rest) (sSeq ms mr) := PSs.imp (pss_cons h1 h2) fun D σ H h => by
  obtain ⟨μ, S, ρ, o, S', r, er, hm, k⟩ := h
  obtain ⟨o1, S1, h1, hm⟩ := R.bind_ok hm
  refine ⟨μ, S, ρ, o1, S1, r, er, h1, ?_⟩
  cases o1 with
  | next ρ1 => exact fun μ1 σ1 H1 a1 r1 e1 => ⟨μ1, S1, ρ1, o, S', r1, e1, hm, k.after a1⟩
  | brk ρ1 => cases hm; exact k
  | cont ρ1 => cases hm; exact k
  | ret d => cases hm; exact k
theorem pmss_one (h1 : PMS X st ms) : PMSs X [st] ms := pss_one h1

/-! ### what a loop walks -/
mutual
def beqD : D → D → Bool
  | .non, .non => true
  | .bl a, .bl b => a == b
  | .int a, .int b => a == b
  | .str a, .str b => a == b
  | .tup a, .tup b => beqL a b
  | .rol a, .rol b => beqL a b
  | .loc a, .loc b => a == b
  | _, _ => false
def beqL : List D → List D → Bool
  | [], [] => true
  | a :: x, b :: y => beqD a b && beqL x y
  | _, _ => false
end
mutual
theorem beqD_eq : ∀ {a b : D}, beqD a b = true → a = b
  | .non, b, h => by cases b <;> first | rfl | cases h
  | .bl a, b, h => by cases b <;> first | (simp only [beqD] at h; rw [eq_of_beq h]) | cases h
  | .int a, b, h => by cases b <;> first | (simp only [beqD] at h; rw [eq_of_beq h]) | cases h
  | .str a, b, h => by cases b <;> first | (simp only [beqD] at h; rw [eq_of_beq h]) | cases h
  | .tup a, b, h => by cases b <;> first | (simp only [beqD] at h; rw [beqL_eq h]) | cases h
  | .rol a, b, h => by cases b <;> first | (simp only [beqD] at h; rw [beqL_eq h]) | cases h
  | .loc a, b, h => by cases b <;> first | (simp only [beqD] at h; rw [eq_of_beq h]) | cases h
theorem beqL_eq : ∀ {a b : List D}, beqL a b = true → a = b
  | [], b, h => by cases b <;> first | rfl | cases h
  | a :: x, b, h => by
    cases b with
    | nil => cases h
    | cons c y =>
      simp only [beqL, Bool.and_eq_true] at h
      rw [beqD_eq h.1, beqL_eq h.2]
end
mutual
theorem beqD_refl : ∀ a : D, beqD a a = true
  | .non => by simp [beqD]
  | .bl _ => by simp [beqD]
  | .int _ => by simp [beqD]
  | .str _ => by simp [beqD]
  | .tup a => by simp [beqD, beqL_refl a]
  | .rol a => by simp [beqD, beqL_refl a]
  | .loc _ => by simp [beqD]
theorem beqL_refl : ∀ a : List D, beqL a a = true
  | [] => by simp [beqL]
  | a :: x => by simp [beqL, beqD_refl a, beqL_refl x]
end
/-- the list at this place still holds this -/
abbrev Grd := Option (Nat × List D)
def grdOk (g : Grd) (S : Sto) : Bool := match g with
  | none => true
  | some (i, ds) => match S[i]? with
    | some (.lst es) => beqL es ds
    | _ => false
theorem grd_lst {i : Nat} {ds : List D} {S : Sto} (h : grdOk (some (i, ds)) S = true) : S[i]? = some (.lst ds) := by
  unfold grdOk at h
  simp only at h
  split at h
  · rename_i es e
    rw [e, beqL_eq h]
  · cases h
/-- J walks these items, from this state on -/
structure ItM (K : PySem.W.Frag) (J : It) (μ0 : List Addr) (H0 : Hp) (ds : List D) (gd : Grd) : Prop where
  go : ∀ (i : Nat) (d : D) (μ : List Addr) (S : Sto) (H : Hp), ds[i]? = some d → After μ0 H0 μ H → Rel K μ S H → grdOk gd S = true → J.go i H ∧ ∀ x H', J.yld i H x H' → After μ H μ H' ∧ Rel K μ S H' ∧ Rep K μ H' d x
  stop : ∀ (μ : List Addr) (S : Sto) (H : Hp), After μ0 H0 μ H → Rel K μ S H → grdOk gd S = true → J.stop ds.length H
abbrev MI := Env → Sto → R (List D × Grd)
def tIM (K : PySem.W.Frag) (m : MI) : TI := fun σ H R => ∃ μ S ρ it S', Rel K μ S H ∧ EnvR K μ H ρ σ ∧ m ρ S = .ok it S' ∧ ∀ J μ' H', After μ H μ' H' → Rel K μ' S' H' → ItM K J μ' H' it.1 it.2 → R J H'
abbrev PMI (X : Cx) (tg iter : Expr) (m : MI) : Prop := PI X tg iter (tIM X.K m)
theorem PI.imp {tg e : Expr} {t t' : TI} (h : PI X tg e t) (w : ∀ σ H R, t' σ H R → t σ H R) : PI X tg e t' := ⟨fun pins s σ H R I q => h.run pins s σ H R I (w σ H R q)⟩
/-- a list or a tuple walked -/
def grdOf (d : D) (ds : List D) : Grd := match d with
  | .loc i => some (i, ds)
  | _ => none
def iSeq (m : ME) : MI := fun ρ S => (m ρ S).bind fun d S1 => match itsD S1 d with
  | some ds => .ok (ds, grdOf d ds) S1
  | none => .bad
theorem lst_at {K : PySem.W.Frag} {μ0 μ : List Addr} {H0 H : Hp} {S0 S : Sto} {d : D} {ds : List D} {v : V} (r0 : Rel K μ0 S0 H0) (h : lstD S0 d = some ds) (q : Rep K μ0 H0 d v) (A : After μ0 H0 μ H) (r : Rel K μ S H) (g : grdOk (grdOf d ds) S = true) :
    ∃ p vs, v = .ref p ∧ SqL K H p vs ∧ Reps K μ H ds vs := by
  have q' := q.mono r0 A
  cases d with
  | rol es => cases h; obtain ⟨a, vs, rfl, hs, q⟩ := rep_rol q'; exact ⟨a, vs, rfl, hs, q⟩
  | loc i =>
    obtain ⟨a, vs, rfl, _, h1, q1⟩ := r.lst (grd_lst g) q'
    exact ⟨a, vs, rfl, SqL.of h1, q1⟩
  | _ => cases h
theorem grd_start {S : Sto} {d : D} {ds : List D} (h : lstD S d = some ds) : grdOk (grdOf d ds) S = true := by
  cases d with
  | loc i =>
    unfold lstD at h
    simp only at h
    split at h
    · rename_i es hi
      cases h
      show grdOk (some (i, ds)) S = true
      unfold grdOk
      simp only
      rw [hi]
      exact beqL_refl ds
    · cases h
  | _ => rfl
theorem tup_at {K : PySem.W.Frag} {μ0 μ : List Addr} {H0 H : Hp} {S0 : Sto} {ds : List D} {p : Addr} (r0 : Rel K μ0 S0 H0) (q : Rep K μ0 H0 (.tup ds) (.ref p)) (A : After μ0 H0 μ H) :
    ∃ vs, SqT K H p vs ∧ Reps K μ H ds vs := by
  obtain ⟨a, vs, e, hs, q⟩ := rep_tup (q.mono r0 A)
  cases e
  exact ⟨vs, hs, q⟩
theorem PI.or {w1 w2 : TI} (h1 : PI X tg e w1) (h2 : PI X tg e w2) : PI X tg e (fun σ H R => w1 σ H R ∨ w2 σ H R) := ⟨fun pins s σ H R I q => q.elim (h1.run pins s σ H R I) (h2.run pins s σ H R I)⟩
theorem itm_list {K : PySem.W.Frag} {μ1 : List Addr} {S1 : Sto} {H1 : Hp} {d1 : D} {ds : List D} {p : Addr} (r1 : Rel K μ1 S1 H1) (hd : lstD S1 d1 = some ds) (p1 : Rep K μ1 H1 d1 (.ref p)) : ItM K (Itl K p) μ1 H1 ds (grdOf d1 ds) :=
  ⟨fun i d μ S H hi A r g => by
    obtain ⟨p', ws, ee, hs', q'⟩ := lst_at r1 hd p1 A r g
    cases ee
    obtain ⟨w, hw, pw⟩ := q'.get hi
    refine ⟨⟨ws, w, hs', hw⟩, fun x H' y => ?_⟩
    obtain ⟨rfl, y⟩ := y
    have := y ws hs'
    rw [hw] at this; cases this
    exact ⟨After.refl, r, pw⟩, fun μ S H A r g => by
    obtain ⟨p', ws, ee, hs', q'⟩ := lst_at r1 hd p1 A r g
    cases ee
    exact ⟨ws, hs', Nat.le_of_eq q'.length⟩⟩
theorem itm_tup {K : PySem.W.Frag} {μ1 : List Addr} {S1 : Sto} {H1 : Hp} {ds : List D} {p : Addr} {gd : Grd} (r1 : Rel K μ1 S1 H1) (p1 : Rep K μ1 H1 (.tup ds) (.ref p)) : ItM K (Itt K p) μ1 H1 ds gd :=
  ⟨fun i d μ S H hi A r g => by
    obtain ⟨ws, hs', q'⟩ := tup_at r1 p1 A
    obtain ⟨w, hw, pw⟩ := q'.get hi
    refine ⟨⟨ws, w, hs', hw⟩, fun x H' y => ?_⟩
    obtain ⟨rfl, y⟩ := y
    have := y ws hs'
    rw [hw] at this; cases this
    exact ⟨After.refl, r, pw⟩, fun μ S H A r g => by
    obtain ⟨ws, hs', q'⟩ := tup_at r1 p1 A
    exact ⟨ws, hs', Nat.le_of_eq q'.length⟩⟩
theorem lstD_of_its {S : Sto} {d : D} {ds : List D} (h : itsD S d = some ds) : d = .tup ds ∨ lstD S d = some ds := by
  cases d with
  | tup es => cases h; exact .inl rfl
  | rol es => exact .inr h
  | loc i => exact .inr h
  | _ => cases h
theorem pmi_seq (he : PM X e m) : PMI X tg e (iSeq m) := PI.imp (PI.or (pi_list he) (pi_tup he)) fun σ H Rr h => by
  obtain ⟨μ, S, ρ, it, S', r, er, hm, k⟩ := h
  obtain ⟨d1, S1, h1, hm⟩ := R.bind_ok hm
  split at hm
  · rename_i ds hd
    cases hm
    rcases lstD_of_its hd with rfl | hl
    · refine .inr (tM_then r er h1 fun μ1 x H1 a1 r1 e1 p1 => ?_)
      obtain ⟨p, vs, rfl, hs, q⟩ := rep_tup p1
      exact ⟨p, rfl, ⟨vs, hs⟩, k _ μ1 H1 a1 r1 (itm_tup r1 p1)⟩
    · refine .inl (tM_then r er h1 fun μ1 x H1 a1 r1 e1 p1 => ?_)
      obtain ⟨p, vs, rfl, hs, q⟩ := lst_rep r1 hl p1
      exact ⟨p, rfl, ⟨vs, hs⟩, k _ μ1 H1 a1 r1 (itm_list r1 hl p1)⟩
  · cases hm
/-- ranges -/
def rngD (lo : Int) (n : Nat) : List D := (List.range n).map fun (i : Nat) => D.int (lo + (i : Int))
theorem itm_rng {K : PySem.W.Frag} {μ1 : List Addr} {H1 : Hp} {lo : Int} {n : Nat} {gd : Grd} : ItM K (Itr lo n) μ1 H1 (rngD lo n) gd :=
  ⟨fun i d μ S H hi A r g => by
    unfold rngD at hi
    rw [List.getElem?_map] at hi
    cases e : (List.range n)[i]? with
    | none => rw [e] at hi; cases hi
    | some j =>
      rw [e] at hi
      have hl : i < n := by simpa using (List.getElem?_eq_some_iff.mp e).1
      have ej : j = i := by rw [List.getElem?_range hl] at e; exact (Option.some.inj e).symm
      subst ej
      cases hi
      refine ⟨hl, fun x H' y => ?_⟩
      obtain ⟨rfl, rfl⟩ := y
      exact ⟨After.refl, r, repI⟩, fun μ S H A r g => by
    show n ≤ _
    unfold rngD
    simp⟩
def iRange1 (u : MA) : MI := fun ρ S => (u ρ S).bind fun ds S1 => match ds with
  | [.int j] => if -1000000000 ≤ j ∧ j ≤ 1000000000 then .ok (rngD 0 j.toNat, none) S1 else .bad
  | _ => .bad
def iRange2 (u : MA) : MI := fun ρ S => (u ρ S).bind fun ds S1 => match ds with
  | [.int i, .int j] => if -1000000000 ≤ i ∧ i ≤ 1000000000 ∧ -1000000000 ≤ j ∧ j ≤ 1000000000 then .ok (rngD i (j - i).toNat, none) S1 else .bad
  | _ => .bad
variable {x1 x2 : Expr} {us : MA} {p : Pos}
theorem pmi_range1 (hg : Gl X "range") (hm : X.mg "range" = none) (ha : PMA X [x1] us) (hs : starEach [x1] X.env = [(false, eval x1 X.env)] := by rfl) : PMI X tg (.Call (.Name "range" p) [x1] [] pos) (iRange1 us) := PI.imp (pi_range1 hg hm ha hs) fun σ H Rr h => by
  obtain ⟨μ, S, ρ, it, S', r, er, hm, k⟩ := h
  obtain ⟨d1, S1, h1, hm⟩ := R.bind_ok hm
  refine tMA_then r er h1 fun μ1 vs H1 a1 r1 e1 p1 => ?_
  split at hm
  · split at hm
    · rename_i hl
      cases hm
      obtain ⟨v, rfl, pv⟩ := reps1 p1
      rw [rep_int pv]
      exact ⟨_, rfl, by omega, by omega, k _ μ1 H1 a1 r1 itm_rng⟩
    · cases hm
  · cases hm
theorem pmi_range2 (hg : Gl X "range") (hm : X.mg "range" = none) (ha : PMA X [x1, x2] us) (hs : starEach [x1, x2] X.env = [(false, eval x1 X.env), (false, eval x2 X.env)] := by rfl) (hs2 : starEach [x2] X.env = [(false, eval x2 X.env)] := by rfl) : PMI X tg (.Call (.Name "range" p) [x1, x2] [] pos) (iRange2 us) := PI.imp (pi_range2 hg hm ha hs hs2) fun σ H Rr h => by
  obtain ⟨μ, S, ρ, it, S', r, er, hm, k⟩ := h
  obtain ⟨d1, S1, h1, hm⟩ := R.bind_ok hm
  refine tMA_then r er h1 fun μ1 vs H1 a1 r1 e1 p1 => ?_
  split at hm
  · split at hm
    · rename_i hl
      cases hm
      obtain ⟨v, w, rfl, pv, pw⟩ := reps2 p1
      rw [rep_int pv, rep_int pw]
      exact ⟨_, _, rfl, ⟨by omega, by omega, by omega, by omega⟩, k _ μ1 H1 a1 r1 itm_rng⟩
    · cases hm
  · cases hm

/-! ### for -/
def forL (gd : Grd) (g : MG) (body : MS) : List D → MS
  | [], ρ, S => if grdOk gd S = true then .ok (.next ρ) S else .bad
  | d :: ds, ρ, S => if grdOk gd S = true then (g d ρ S).bind fun ρ1 S1 => (body ρ1 S1).bind fun o S2 => match o with
      | .next ρ2 => forL gd g body ds ρ2 S2
      | .cont ρ2 => forL gd g body ds ρ2 S2
      | .brk ρ2 => .ok (.next ρ2) S2
      | .ret d => .ok (.ret d) S2
    else .bad
def sFor (it : MI) (g : MG) (body : MS) : MS := fun ρ S => (it ρ S).bind fun z S1 => forL z.2 g body z.1 ρ S1
theorem pms_for {iter : Expr} {body : List Stmt} {it : MI} {mb : MS} (hp : PassesOwn (model X.prog X.w) X.A X.env X.xe) (hc : X.calm = true) (hi : PMI X tg iter it) (hg : PMG X tg js g) (hb : PMSs X body mb)
    (hs : ∀ x, foldedSetIterable iter X.env x = pure x := by intro _; rfl) : PMS X (.For tg iter body [] pos) (sFor it g mb) := PS.imp (ps_for hp hc hi hg hb hs) fun E σ H h => by
  obtain ⟨μ, S, ρ, o, S', r, er, hm, k⟩ := h
  obtain ⟨z, S1, h1, hm⟩ := R.bind_ok hm
  refine ⟨μ, S, ρ, z, S1, r, er, h1, fun J μ1 H1 a1 r1 J1 => ?_⟩
  refine ⟨fun i m σ' H' => m = z.1.length - i ∧ i ≤ z.1.length ∧ ∃ μ' Sx ρ' ox Sy, After μ1 H1 μ' H' ∧ Rel X.K μ' Sx H' ∧ EnvR X.K μ' H' ρ' σ' ∧ forL z.2 g mb (z.1.drop i) ρ' Sx = .ok ox Sy ∧ OutOk X.K μ' H' Sy E ox,
    ⟨z.1.length, by simp, Nat.zero_le _, μ1, S1, ρ, o, S', After.refl, r1, er.mono r a1, hm, k.after a1⟩, ?_⟩
  rintro i m σ' H' ⟨rfl, hi, μ', Sx, ρ', ox, Sy, A, r', e', hf, kk⟩
  by_cases hlt : i < z.1.length
  · rw [List.drop_eq_getElem_cons hlt] at hf
    unfold forL at hf
    split at hf
    · rename_i hgd
      obtain ⟨ρ1, S2, h2, hf⟩ := R.bind_ok hf
      obtain ⟨o2, S3, h3, hf⟩ := R.bind_ok hf
      obtain ⟨gg, yy⟩ := J1.go i _ μ' Sx H' (List.getElem?_eq_getElem hlt) A r' hgd
      refine .inr ⟨gg, _, fun σ2 H2 q => ⟨z.1.length - (i + 1), by omega, q⟩, fun x H2 y => ?_⟩
      obtain ⟨A2, r2, p2⟩ := yy x H2 y
      refine ⟨μ', Sx, ρ', _, ρ1, S2, r2, e'.mono r' A2, p2, h2, fun μ3 σ3 H3 A3 r3 e3 _ => ⟨μ3, S2, ρ1, o2, S3, r3, e3, h3, ?_⟩⟩
      have A03 := (A.trans A2).trans A3
      have kk3 := (kk.after A2).after A3
      cases o2 with
      | next ρ2 => exact fun μ4 σ4 H4 A4 r4 e4 => ⟨rfl, hlt, μ4, S3, ρ2, ox, Sy, A03.trans A4, r4, e4, hf, kk3.after A4⟩
      | cont ρ2 => exact fun μ4 σ4 H4 A4 r4 e4 => ⟨rfl, hlt, μ4, S3, ρ2, ox, Sy, A03.trans A4, r4, e4, hf, kk3.after A4⟩
      | brk ρ2 => cases hf; exact fun μ4 σ4 H4 A4 r4 e4 => kk3 μ4 σ4 H4 A4 r4 e4
      | ret d => cases hf; exact fun μ4 v H4 A4 r4 e4 => kk3 μ4 v H4 A4 r4 e4
    · cases hf
  · have ei : i = z.1.length := by omega
    subst ei
    rw [List.drop_length] at hf
    unfold forL at hf
    split at hf
    · rename_i hgd
      cases hf
      exact .inl ⟨J1.stop μ' _ H' A r' hgd, kk μ' σ' H' After.refl r' e'⟩
    · cases hf

/-! ### while -/
def whileL (t : MT) (body : MS) : Nat → MS
  | 0, _, _ => .bad
  | n + 1, ρ, S => (t ρ S).bind fun b S1 => if b = true then (body ρ S1).bind fun o S2 => match o with
      | .next ρ2 => whileL t body n ρ2 S2
      | .cont ρ2 => whileL t body n ρ2 S2
      | .brk ρ2 => .ok (.next ρ2) S2
      | .ret d => .ok (.ret d) S2
    else .ok (.next ρ) S1
def sWhile (n : Nat) (t : MT) (body : MS) : MS := whileL t body n
theorem pms_while (n : Nat) {body : List Stmt} {mb : MS} (hp : PassesOwn (model X.prog X.w) X.A X.env X.xe) (hc : PMT X c mt) (hb : PMSs X body mb) : PMS X (.While c body [] pos) (sWhile n mt mb) := PS.imp (ps_while hp hc hb) fun E σ H h => by
  obtain ⟨μ, S, ρ, o, S', r, er, hm, k⟩ := h
  refine ⟨fun m σ' H' => ∃ μ' Sx ρ' ox Sy, Rel X.K μ' Sx H' ∧ EnvR X.K μ' H' ρ' σ' ∧ whileL mt mb m ρ' Sx = .ok ox Sy ∧ OutOk X.K μ' H' Sy E ox, ⟨n, μ, S, ρ, o, S', r, er, hm, k⟩, ?_⟩
  rintro m σ' H' ⟨μ', Sx, ρ', ox, Sy, r', e', hf, kk⟩
  cases m with
  | zero => cases hf
  | succ m =>
    unfold whileL at hf
    obtain ⟨b, S1, h1, hf⟩ := R.bind_ok hf
    refine tMT_then r' e' h1 fun μ1 H1 a1 r1 e1 => ?_
    cases b with
    | true =>
      rw [if_pos rfl] at hf ⊢
      obtain ⟨o2, S2, h2, hf⟩ := R.bind_ok hf
      refine ⟨_, fun σ2 H2 q => ⟨m, Nat.lt_succ_self m, q⟩, μ1, S1, ρ', o2, S2, r1, e1, h2, ?_⟩
      have kk3 := kk.after a1
      cases o2 with
      | next ρ2 => exact fun μ4 σ4 H4 A4 r4 e4 => ⟨μ4, S2, ρ2, ox, Sy, r4, e4, hf, kk3.after A4⟩
      | cont ρ2 => exact fun μ4 σ4 H4 A4 r4 e4 => ⟨μ4, S2, ρ2, ox, Sy, r4, e4, hf, kk3.after A4⟩
      | brk ρ2 => cases hf; exact fun μ4 σ4 H4 A4 r4 e4 => kk3 μ4 σ4 H4 A4 r4 e4
      | ret d => cases hf; exact fun μ4 v H4 A4 r4 e4 => kk3 μ4 v H4 A4 r4 e4
    | false =>
      rw [if_neg Bool.false_ne_true] at hf ⊢
      cases hf
      exact kk μ1 σ' H1 a1 r1 e1
end
end En
namespace EnumT
open PySem PyProof.Rows
open Sem (wp)
abbrev enO (a : Addr) : Obj := { cls := .type "enumerate", data := .fields #[.none, .bool false, .ref a, rawInt 0, .none, .none] }
theorem meets1 {v : Value} {ob : Obj} {P : Heap → Prop} (B : Begins v ob P) :
    Meets (Builtin.«enumerate.__new__» ⟨[.type "enumerate", v], []⟩) (fun _ R st => P st.heap ∧ R (.ok (.ret (.ref (st.heap.push ob).objs.size))) { st with heap := (st.heap.push ob).push (enO st.heap.objs.size) }) :=
  .of_wp fun pr wo A R st hh => by
    obtain ⟨hp, gn, dr, tk, os⟩ := st
    obtain ⟨h1, hh⟩ := hh
    have hsub := sub_enumerate
    have go : ∀ {A2 : Around} {E : Value → Shared → Prop} {Q : Value → Shared → Prop}, Q (.ref hp.objs.size) ⟨hp.push ob, gn, dr, tk, os⟩ → wpAny (model pr wo) A2 (pyIter v) Q E ⟨hp, gn, dr, tk, os⟩ := fun q => B.iter pr wo _ _ _ _ h1 q
    wp_walk using go
    refine wpAny_stack_any fun sk => wpAny_pure ?_
    split
    · rename_i cc _ _ _ _ _
      cases (cc == Value.type "enumerate") <;> (wp_walk using go; exact ⟨_, rfl, hh⟩)
    · wp_walk using go
      exact ⟨_, rfl, hh⟩
section
variable {pr : Program} {wo : World} {A : Around} {E : Value → Shared → Prop} {s : Shared}
theorem begun {v : Value} {ob : Obj} {P : Heap → Prop} {Q : Value → Shared → Prop} (B : Begins v ob P) (h1 : P s.heap)
    (k : ∀ h', IsEnum h' (s.heap.objs.size + 1) s.heap.objs.size 0 .none → h'.get? s.heap.objs.size = some ob → (∀ b o, s.heap.get? b = some o → h'.get? b = some o) → Q (.ref (s.heap.objs.size + 1)) { s with heap := h' }) :
    wpAny (model pr wo) A (call (.type "enumerate") [v]) Q E s := by
  refine callType_new F.called_enumerate (by decide) (F.typeCall_enumerate_1 _) (F.newCall_enumerate_1 _) (fun ob2 => F.args_object_init_2 ob2 _) F.entry_enumerate_new (meets1 B) ⟨h1, ?_⟩
  have hz : (s.heap.push ob).objs.size = s.heap.objs.size + 1 := by rw [Heap.size_push]
  rw [hz]
  have he : IsEnum ((s.heap.push ob).push (enO s.heap.objs.size)) (s.heap.objs.size + 1) s.heap.objs.size 0 .none := by
    have z := Heap.get?_push_size (s.heap.push ob) (o := enO s.heap.objs.size) rfl
    rw [hz] at z
    exact z
  exact ⟨⟨_, he, rfl⟩, k _ he (Heap.get?_push_of_some _ (Heap.get?_push_size _ B.free)) fun b o x => Heap.get?_push_of_some _ (Heap.get?_push_of_some _ x)⟩
end
end EnumT
namespace En
open PySem L2 PyProof.Rows
/-- the tuple at a, each item in a new pair -/
def IteT (K : PySem.W.Frag) (a : Addr) : It where
  go := fun i H => ∃ (xs : List V) (x : V), SqT K H a xs ∧ xs[i]? = some x
  yld := fun i H v H' => ∃ T x, v = .ref T ∧ H T = none ∧ H' = upd H T (.tup [.int (i : Nat), x]) ∧ ∀ xs, SqT K H a xs → xs[i]? = some x
  stop := fun i H => ∃ xs : List V, SqT K H a xs ∧ xs.length ≤ i
theorem tupIter_ne {h : Heap} {a it : Addr} {i : Nat} {items : Array Value} (t : h.IsTupleIter it a i) (u : IsTup h a items) : a ≠ it := fun z => by
  obtain ⟨o, h1, h2, _⟩ := t
  obtain ⟨o', h3, h4, _⟩ := u
  rw [z, h1] at h3
  cases h3
  rw [h2] at h4
  injection h4 with h5
  exact absurd h5 (by decide)
theorem enum_ne {h : Heap} {a e it : Addr} {i : Int} {old : Value} {items : Array Value} (t : IsEnum h e it i old) (u : IsTup h a items) : e ≠ a := fun z => by
  obtain ⟨o', h3, h4, _⟩ := u
  have t' : h.get? e = some _ := t
  rw [z, h3] at t'
  cases t'
  injection h4 with h5
  exact absurd h5 (by decide)
theorem turn_enT {P : Program} {w : World} {K : PySem.W.Frag} {elts : List Expr} {kk : Nat} {tpos : Pos} (a e it : Addr) :
    Turn P w K (.Tuple elts kk tpos) (IteT K a) [e, it] e (fun i h => (∃ old, IsEnum h e it ((i : Nat) : Int) old) ∧ h.IsTupleIter it a i ∧ e ≠ it) where
  mem := List.mem_cons_self
  obj := fun i h st b hb => by
    obtain ⟨⟨old, he⟩, ⟨o, ho, _, hd⟩, _⟩ := st
    rcases List.mem_cons.mp hb with z | z
    · rw [z]; exact ⟨_, he, fun v q => nomatch q⟩
    · rw [List.mem_singleton.mp z]; exact ⟨o, ho, fun v q => by rw [hd] at q; cases q⟩
  keep := fun i h h' st k => by
    obtain ⟨⟨old, he⟩, hi, hne⟩ := st
    exact ⟨⟨old, k e List.mem_cons_self _ he⟩, hi.at fun o q => k it (List.mem_cons_of_mem _ List.mem_cons_self) o q, hne⟩
  item := fun X hP hw hK hc i pins s σ H E I hf st hg => by
    subst hP hw hK
    obtain ⟨⟨old, he⟩, hit, hne⟩ := st
    obtain ⟨xs, x, hq, hx⟩ := hg
    obtain ⟨its, rv, p, hz⟩ := I.tuple hq
    obtain ⟨u, hu, ru⟩ := rv.get hx
    have hil : i < its.toArray.size := by simpa using (List.getElem?_eq_some_iff.mp hu).1
    have elt : e < s.heap.objs.size := Heap.lt_size he
    have ilt : it < s.heap.objs.size := by obtain ⟨_, q, _⟩ := hit; exact Heap.lt_size q
    have Dr := Draws.tuple (prog := X.prog) (w := X.w) (A := X.A.in1) (I.ok.hd hc) it a (tupIter_ne hit p) its.toArray
    refine wpAny_pyNext_enum_itemD Dr he ⟨hit, p⟩ hil hne (by simp only [List.mem_cons, List.not_mem_nil, or_false, not_or]; exact ⟨hne, enum_ne he p⟩) fun x' h' tk hP ho st' hT hsz hk => ?_
    have ex : x' = u := by
      have hP' : its.toArray[i]? = some x' := hP
      have hu' : its.toArray[i]? = some u := by simpa using hu
      rw [hu'] at hP'
      exact (Option.some.inj hP').symm
    subst ex
    refine ⟨_, rfl, wpAny_letOwnedTupleGo_enum (s := { s with heap := h', toks := tk + 1 }) ho fun h'' he' sb => ?_⟩
    have hT2 : h''.get? s.heap.objs.size = some { cls := .type "tuple", data := .seq #[.int i tk, x'] } := (sb.2 _ (Nat.ne_of_gt elt)).trans hT
    have nw : ObjOk X.prog X.w (upd H s.heap.objs.size (.tup [.int (i : Nat), x])) h'' s.heap.objs.size (.tup [.int (i : Nat), x]) :=
      ⟨by show 2 ≤ sizeLine; decide, [.int i tk, x'], .cons ⟨_, rfl⟩ (.cons ru .nil), ⟨_, hT2, rfl, _, rfl⟩⟩
    have I1 : Inv X pins σ (upd H s.heap.objs.size (.tup [.int (i : Nat), x])) { s with heap := h'', toks := tk + 1 } :=
      I.turnedNew (ch := [e, it]) (fun b ob hb q => (sb.2 b (fun z => hb (by rw [z]; exact List.mem_cons_self))).trans (hk b ob (fun z => hb (by rw [z]; exact List.mem_cons_self)) (fun z => hb (by rw [z]; exact List.mem_cons_of_mem _ List.mem_cons_self)) q)) hf (Nat.le_refl _) nw
    refine ⟨.ref s.heap.objs.size, _, I1, rfl, ⟨_, x, rfl, I.hok.fresh (Nat.le_refl _), rfl, fun ys hy => by rw [I.tuple_inj hy hq]; exact hx⟩, ⟨⟨x', ?_⟩, st'.1.at fun o q => (sb.2 it (Ne.symm hne)).trans q, hne⟩, fun b hb => ?_⟩
    · rw [show ((i + 1 : Nat) : Int) = (i : Int) + 1 by omega]
      exact he'
    · have hb' : b < s.heap.objs.size := by
        rcases List.mem_cons.mp hb with z | z
        · rw [z]; exact elt
        · rw [List.mem_singleton.mp z]; exact ilt
      rw [upd_ne (Nat.ne_of_lt hb')]
      exact (hf b hb).1
  done := fun X hP hw hK hc i pins s σ H E I hf st hg => by
    subst hP hw hK
    obtain ⟨⟨old, he⟩, hit, hne⟩ := st
    obtain ⟨xs, hq, hx⟩ := hg
    obtain ⟨its, rv, p, hz⟩ := I.tuple hq
    obtain ⟨f0, f1, f2, f3, f4, f5⟩ := hf it (List.mem_cons_of_mem _ List.mem_cons_self)
    have hl := rv.length
    have hx' : its.toArray[i]? = none := by simp; omega
    have hT : s.TypeIs (.ref e) "enumerate" := ⟨_, he, rfl⟩
    unfold pyNext
    refine wpAny_bind (wpAny_attempt (wpAny_callSpecial?_slot (name := Str.ofString "__next__") hT F.slot_enumerate_next (wpAny_call_entry F.slot_enumerate_next hT F.entry_enumerate_next ?_ (F.args_enumerate_next_1 _))))
    show wpAny _ _ (field (.ref e) 2 >>= _) _ _ _
    refine wpAny_bind (wpAny_field he rfl (x := .ref it) rfl (wpAny_bind ?_))
    refine wpAny_nextOf_tuple_end (I.ok.hd hc) hit p hx' fun h' x eb hxx => ?_
    obtain ⟨o, ho, hcc⟩ := hxx
    refine wpAny_bind (wpAny_isInstance (T := "StopIteration") (b := true) ⟨o, ho, hcc⟩ isSubtype_stop (wpAny_pure ?_))
    exact ⟨rfl, I.turned (t' := s.toks) (fun b o hb q => eb b o hb q) f0 f1 f3 f4 f5⟩
  self := fun A i s Q E st h => by
    obtain ⟨⟨_, he⟩, _⟩ := st
    exact wpAny_pyIter_enum he h
def iEnT (K : PySem.W.Frag) (ta : TA) : TI := fun σ H R => ta σ H fun vs H1 => ∃ a xs, vs = [.ref a] ∧ SqT K H1 a xs ∧ R (IteT K a) H1
section
variable {X : Cx} {e tg : Expr} {ta : TA} {p pos tpos : Pos} {elts : List Expr} {kk : Nat}
theorem pi_enT (hg : Gl X "enumerate") (hm : X.mg "enumerate" = none) (ha : PA X [e] ta) (hs : starEach [e] X.env = [(false, eval e X.env)] := by rfl) : PI X (.Tuple elts kk tpos) (.Call (.Name "enumerate" p) [e] [] pos) (iEnT X.K ta) := ⟨fun pins s σ H R I h => by
  refine Call_ (ld_blt I hg hm boot_enumerate (PyProof.Rows.callWith_type1 (thn (ha.run pos pins s σ H _ I h) fun us s1 ⟨vs, H1, I1, r1, q1⟩ => ?_) hs rfl))
  obtain ⟨a, xs, ex, hq, q⟩ := q1
  subst ex
  obtain ⟨u, eu, ru⟩ := vals1 r1
  subst eu
  cases ru
  obtain ⟨its, rv, p', hz⟩ := I1.tuple hq
  refine EnumT.begun (begins_tuple a its.toArray) p' fun h' he hit hk => wpAny_pyIter_enum he ?_
  have I2 : Inv X pins σ H1 { s1 with heap := h' } := I1.kept (t' := s1.toks) hk
  refine ⟨s1.heap.objs.size + 1, [s1.heap.objs.size + 1, s1.heap.objs.size], _, _, H1, rfl, I2, turn_enT a (s1.heap.objs.size + 1) s1.heap.objs.size, ⟨⟨.none, he⟩, ⟨_, hit, rfl, rfl⟩, Nat.succ_ne_self _⟩, fun b hb => ?_, q⟩
  have hle : s1.heap.objs.size ≤ b := by
    rcases List.mem_cons.mp hb with z | z
    · rw [z]; exact Nat.le_add_right _ _
    · rw [List.mem_singleton.mp z]; exact Nat.le_refl _
  exact I1.fpOk hle (I1.hok.fresh hle)⟩
def enumFrom : Nat → List D → List D
  | _, [] => []
  | i, d :: ds => .tup [.int (i : Int), d] :: enumFrom (i + 1) ds
theorem enumFrom_get : ∀ (ds : List D) (k i : Nat), (enumFrom k ds)[i]? = (ds[i]?).map fun d => D.tup [.int ((k + i : Nat) : Int), d]
  | [], _, _ => by simp [enumFrom]
  | d :: ds, k, 0 => by simp [enumFrom]
  | d :: ds, k, i + 1 => by
    rw [enumFrom, List.getElem?_cons_succ, List.getElem?_cons_succ, enumFrom_get ds (k + 1) i]
    rw [show k + 1 + i = k + (i + 1) by omega]
theorem enumFrom_length : ∀ (ds : List D) (k : Nat), (enumFrom k ds).length = ds.length
  | [], _ => rfl
  | d :: ds, k => by rw [enumFrom, List.length_cons, enumFrom_length ds, List.length_cons]
/-- a new pair of an index and an item -/
theorem pair_new {K : PySem.W.Frag} {μ : List Addr} {S : Sto} {H : Hp} {a b : D} {x y : V} {T : Addr} (r : Rel K μ S H) (ha : Rep K μ H a x) (hb : Rep K μ H b y) (hT : H T = none) :
    After μ H μ (upd H T (.tup [x, y])) ∧ Rel K μ S (upd H T (.tup [x, y])) ∧ Rep K μ (upd H T (.tup [x, y])) (.tup [a, b]) (.ref T) := by
  have A : After μ H μ (upd H T (.tup [x, y])) := After.new hT
  refine ⟨A, r.keep hT, ?_⟩
  simp only [Rep]
  exact ⟨T, [x, y], rfl, SqT.of upd_same, Reps.cons (ha.mono r A) (Reps.cons (hb.mono r A) Reps.nil)⟩
theorem itm_enT {K : PySem.W.Frag} {μ1 : List Addr} {S1 : Sto} {H1 : Hp} {ds : List D} {p : Addr} {gd : Grd} (r1 : Rel K μ1 S1 H1) (p1 : Rep K μ1 H1 (.tup ds) (.ref p)) : ItM K (IteT K p) μ1 H1 (enumFrom 0 ds) gd :=
  ⟨fun i d μ S H hi A r g => by
    rw [enumFrom_get] at hi
    obtain ⟨ws, hs', q'⟩ := tup_at r1 p1 A
    cases e : ds[i]? with
    | none => rw [e] at hi; cases hi
    | some d0 =>
      rw [e] at hi
      cases hi
      obtain ⟨w, hw, pw⟩ := q'.get e
      refine ⟨⟨ws, w, hs', hw⟩, fun x H' y => ?_⟩
      obtain ⟨T, x0, rfl, hT, rfl, hy⟩ := y
      have := hy ws hs'
      rw [hw] at this; cases this
      rw [Nat.zero_add]
      exact pair_new r repI pw hT, fun μ S H A r g => by
    obtain ⟨ws, hs', q'⟩ := tup_at r1 p1 A
    exact ⟨ws, hs', by rw [enumFrom_length]; exact Nat.le_of_eq q'.length⟩⟩
theorem itm_enL {K : PySem.W.Frag} {μ1 : List Addr} {S1 : Sto} {H1 : Hp} {d1 : D} {ds : List D} {p : Addr} (r1 : Rel K μ1 S1 H1) (hd : lstD S1 d1 = some ds) (p1 : Rep K μ1 H1 d1 (.ref p)) : ItM K (Ite K p) μ1 H1 (enumFrom 0 ds) (grdOf d1 ds) :=
  ⟨fun i d μ S H hi A r g => by
    rw [enumFrom_get] at hi
    obtain ⟨p', ws, ee, hs', q'⟩ := lst_at r1 hd p1 A r g
    cases ee
    cases e : ds[i]? with
    | none => rw [e] at hi; cases hi
    | some d0 =>
      rw [e] at hi
      cases hi
      obtain ⟨w, hw, pw⟩ := q'.get e
      refine ⟨⟨ws, w, hs', hw⟩, fun x H' y => ?_⟩
      obtain ⟨T, x0, rfl, hT, rfl, hy⟩ := y
      have := hy ws hs'
      rw [hw] at this; cases this
      rw [Nat.zero_add]
      exact pair_new r repI pw hT, fun μ S H A r g => by
    obtain ⟨p', ws, ee, hs', q'⟩ := lst_at r1 hd p1 A r g
    cases ee
    exact ⟨ws, hs', by rw [enumFrom_length]; exact Nat.le_of_eq q'.length⟩⟩
def iEnum' (m : ME) : MI := fun ρ S => (m ρ S).bind fun d S1 => match itsD S1 d with
  | some ds => .ok (enumFrom 0 ds, grdOf d ds) S1
  | none => .bad
theorem one_then {K : PySem.W.Frag} {m : ME} {σ : L2.St} {H : Hp} {Q : List V → Hp → Prop} {μ : List Addr} {S S1 : Sto} {ρ : Env} {d : D} (r : Rel K μ S H) (e : EnvR K μ H ρ σ) (h : m ρ S = .ok d S1)
    (k : ∀ μ1 v H1, After μ H μ1 H1 → Rel K μ1 S1 H1 → EnvR K μ1 H1 ρ σ → Rep K μ1 H1 d v → Q [v] H1) : tMA K (mCons m mNil) σ H Q :=
  tMA_then r e (show mCons m mNil ρ S = .ok [d] S1 by unfold mCons; rw [h]; rfl) fun μ1 vs H1 a1 r1 e1 p1 => by
    obtain ⟨v, rfl, pv⟩ := reps1 p1
    exact k μ1 v H1 a1 r1 e1 pv
theorem pmi_enum {m : ME} (hg : Gl X "enumerate") (hm : X.mg "enumerate" = none) (he : PM X e m) (hs : starEach [e] X.env = [(false, eval e X.env)] := by rfl) : PMI X (.Tuple elts kk tpos) (.Call (.Name "enumerate" p) [e] [] pos) (iEnum' m) :=
  PI.imp (PI.or (pi_enum hg hm (pma_cons he pma_nil hs) hs) (pi_enT hg hm (pma_cons he pma_nil hs) hs)) fun σ H Rr h => by
    obtain ⟨μ, S, ρ, it, S', r, er, hm, k⟩ := h
    obtain ⟨d1, S1, h1, hm⟩ := R.bind_ok hm
    split at hm
    · rename_i ds hd
      cases hm
      rcases lstD_of_its hd with rfl | hl
      · refine .inr (one_then r er h1 fun μ1 x H1 a1 r1 e1 p1 => ?_)
        obtain ⟨p, vs, rfl, hs, q⟩ := rep_tup p1
        exact ⟨p, vs, rfl, hs, k _ μ1 H1 a1 r1 (itm_enT r1 p1)⟩
      · refine .inl (one_then r er h1 fun μ1 x H1 a1 r1 e1 p1 => ?_)
        obtain ⟨p, vs, rfl, hs, q⟩ := lst_rep r1 hl p1
        exact ⟨p, vs, rfl, hs, k _ μ1 H1 a1 r1 (itm_enL r1 hl p1)⟩
    · cases hm
end

/-! ### comprehensions -/
def lcL (gd : Grd) (g : MG) (t : MT) (m : ME) : List D → Env → Sto → R (List D)
  | [], _, S => if grdOk gd S = true then .ok [] S else .bad
  | d :: ds, ρ, S => if grdOk gd S = true then (g d ρ S).bind fun ρ1 S1 => (t ρ1 S1).bind fun b S2 => if b = true then (m ρ1 S2).bind fun x S3 => (lcL gd g t m ds ρ S3).bind fun xs S4 => .ok (x :: xs) S4 else lcL gd g t m ds ρ S2 else .bad
def mLc (it : MI) (g : MG) (t : MT) (m : ME) (vs : List Nat) : ME := fun ρ S => (it ρ S).bind fun z S1 => (lcL z.2 g t m z.1 (wipeE ρ vs) S1).bind fun xs S2 => if xs.length ≤ lim then .ok (.loc S2.length) (S2 ++ [.lst xs]) else .bad
def mYes : MT := fun _ S => .ok true S
section
variable {X : Cx}
abbrev PMTs (X : Cx) (ifs : List Expr) (m : MT) : Prop := PTs X ifs (tMT X.K m)
theorem PTs.imp {ifs : List Expr} {t t' : TT} (h : PTs X ifs t) (w : ∀ σ H Q, t' σ H Q → t σ H Q) : PTs X ifs t' := ⟨fun pins s σ H Q I q => h.run pins s σ H Q I (w σ H Q q)⟩
theorem pmts_nil : PMTs X [] mYes := PTs.imp pts_nil fun σ H Q h => by
  obtain ⟨μ, S, ρ, b, S', r, er, hm, k⟩ := h
  cases hm
  exact k μ H After.refl r
theorem pmts_one {c : Expr} {t : MT} (h : PMT X c t) : PMTs X [c] t := pts_one h
theorem lcL_len {gd : Grd} {g : MG} {t : MT} {m : ME} : ∀ {ds : List D} {ρ : Env} {S S' : Sto} {xs : List D}, lcL gd g t m ds ρ S = .ok xs S' → xs.length ≤ ds.length
  | [], ρ, S, S', xs, h => by
    unfold lcL at h
    split at h
    · cases h; exact Nat.le_refl _
    · cases h
  | d :: ds, ρ, S, S', xs, h => by
    unfold lcL at h
    split at h
    · obtain ⟨ρ1, S1, h1, h⟩ := R.bind_ok h
      obtain ⟨b, S2, h2, h⟩ := R.bind_ok h
      split at h
      · obtain ⟨x, S3, h3, h⟩ := R.bind_ok h
        obtain ⟨ys, S4, h4, h⟩ := R.bind_ok h
        cases h
        exact Nat.succ_le_succ (lcL_len h4)
      · exact Nat.le_succ_of_le (lcL_len h)
    · cases h
section
variable {K : PySem.W.Frag} {μ : List Addr} {S : Sto} {H : Hp} {Dl : Addr} {acc ys : List V}
/-- a list without a number changes: nothing else does -/
theorem tup_off {a : Addr} {xs : List V} (h : H Dl = some (.lst acc)) (t : SqT K H a xs) : SqT K (upd H Dl (.lst ys)) a xs := by
  rcases t with (t | ⟨o, t⟩) | t
  · exact .inl (.inl (by rw [upd_ne (ne_of t h (by intro z; cases z))]; exact t))
  · exact .inl (.inr ⟨o, by rw [upd_ne (ne_of t h (by intro z; cases z))]; exact t⟩)
  · exact .inr t
mutual
theorem Rep.off (h : H Dl = some (.lst acc)) : ∀ {d : D} {v : V}, Rep K μ H d v → Rep K μ (upd H Dl (.lst ys)) d v
  | .non, v, q => by simpa only [Rep] using q
  | .bl b, v, q => by simpa only [Rep] using q
  | .int i, v, q => by simpa only [Rep] using q
  | .str x, v, q => by simpa only [Rep] using q
  | .tup ds, v, q => by
    simp only [Rep] at q ⊢
    obtain ⟨p, vs, e, hs, q⟩ := q
    exact ⟨p, vs, e, tup_off h hs, Reps.off h q⟩
  | .rol ds, v, q => by
    simp only [Rep] at q ⊢
    obtain ⟨p, vs, e, hs, q⟩ := q
    refine ⟨p, vs, e, ?_, Reps.off h q⟩
    rcases hs with ⟨o, hs⟩ | hs
    · exact .inl ⟨o, by rw [upd_ne (ne_of hs h (by intro z; cases z))]; exact hs⟩
    · exact .inr hs
  | .loc i, v, q => by simpa only [Rep] using q
theorem Reps.off (h : H Dl = some (.lst acc)) : ∀ {ds : List D} {vs : List V}, Reps K μ H ds vs → Reps K μ (upd H Dl (.lst ys)) ds vs
  | [], vs, q => by simpa only [Reps] using q
  | d :: ds, vs, q => by
    simp only [Reps] at q ⊢
    obtain ⟨v, r, e, h1, h2⟩ := q
    exact ⟨v, r, e, Rep.off h h1, Reps.off h h2⟩
end
theorem KReps.off (h : H Dl = some (.lst acc)) : ∀ {ds : List (Key × D)} {vs : List (Key × V)}, KReps K μ H ds vs → KReps K μ (upd H Dl (.lst ys)) ds vs
  | [], vs, q => by simpa only [KReps] using q
  | d :: ds, vs, q => by
    simp only [KReps] at q ⊢
    obtain ⟨v, r, e, h1, h2⟩ := q
    exact ⟨v, r, e, Rep.off h h1, KReps.off h h2⟩
theorem Rel.off (r : Rel K μ S H) (h : H Dl = some (.lst acc)) (n : Dl ∉ μ) : Rel K μ S (upd H Dl (.lst ys)) where
  len := r.len
  nd := r.nd
  cell := fun i c a h1 h2 => by
    have ne : a ≠ Dl := fun z => n (by rw [← z]; exact List.mem_of_getElem? h2)
    have k := r.cell i c a h1 h2
    cases c with
    | lst ds => obtain ⟨vs, e, g⟩ := k; exact ⟨vs, by rw [upd_ne ne]; exact e, g.off h⟩
    | dct ds => obtain ⟨vs, e, g⟩ := k; exact ⟨vs, by rw [upd_ne ne]; exact e, g.off h⟩
theorem EnvR.offL {ρ : Env} {σ : L2.St} (e : EnvR K μ H ρ σ) (h : H Dl = some (.lst acc)) : EnvR K μ (upd H Dl (.lst ys)) ρ σ :=
  ⟨e.len, fun i d q => let ⟨v, h1, h2⟩ := e.get i d q; ⟨v, h1, h2.off h⟩⟩
/-- behind an address that the start did not know, anything may stand -/
theorem After.hole {μ1 μ' : List Addr} {H1 H' : Hp} {u : HO} (A : After μ1 H1 μ' H') (h : H1 Dl = none) : After μ1 H1 μ' (upd H' Dl u) :=
  ⟨A.pre, fun a o ha hn => by rw [upd_ne (ne_of_none ha h)]; exact A.fr a o ha hn, A.nw⟩
end
theorem lc_then {K : PySem.W.Frag} {it : MI} {g : MG} {t : MT} {m : ME} {js vs : List Nat} {σ : L2.St} {H : Hp} {Q : VK} (hj : ∀ j ∈ js, j ∈ vs) (h : tM K (mLc it g t m vs) σ H Q) : tLc (tIM K it) (tGM K js g) (tMT K t) (tM K m) vs σ H Q := by
  obtain ⟨μ, S, ρ, d, S', r, er, hm, k⟩ := h
  obtain ⟨z, S1, h1, hm⟩ := R.bind_ok hm
  obtain ⟨xs, S2, h2, hm⟩ := R.bind_ok hm
  split at hm
  · rename_i hl
    cases hm
    refine ⟨μ, S, ρ, z, S1, r, er, h1, fun J μ1 H1 a1 r1 J1 Dl hD => ?_⟩
    have A0 : After μ1 H1 μ1 (upd H1 Dl (.lst [])) := After.new hD
    have nDl : Dl ∉ μ1 := fun m => by
      rcases r1.inn m with ⟨_, q⟩ | ⟨_, q⟩ <;> (rw [hD] at q; cases q)
    refine ⟨fun i mm H' => mm = z.1.length - i ∧ i ≤ z.1.length ∧ ∃ μ' Sx done acc rest, xs = done ++ rest ∧ After μ1 H1 μ' H' ∧ Rel K μ' Sx H' ∧ H' Dl = some (.lst acc) ∧ Dl ∉ μ' ∧ Reps K μ' H' done acc ∧ EnvR K μ' H' (wipeE ρ vs) (wipe σ vs) ∧ lcL z.2 g t m (z.1.drop i) (wipeE ρ vs) Sx = .ok rest S2,
      ⟨z.1.length, by simp, Nat.zero_le _, μ1, S1, [], [], xs, rfl, A0, r1.keep hD, upd_same, nDl, Reps.nil, ((er.mono r a1).mono r1 A0).wipe vs, h2⟩, ?_⟩
    rintro i mm H' ⟨rfl, hi, μ', Sx, done, acc, rest, ex, A1, r', hacc, nD, q, e', hf⟩
    by_cases hlt : i < z.1.length
    · rw [List.drop_eq_getElem_cons hlt] at hf
      unfold lcL at hf
      split at hf
      · rename_i hgd
        obtain ⟨ρ1, S3, h3, hf⟩ := R.bind_ok hf
        obtain ⟨b, S4, h4, hf⟩ := R.bind_ok hf
        obtain ⟨gg, yy⟩ := J1.go i _ μ' Sx H' (List.getElem?_eq_getElem hlt) A1 r' hgd
        refine .inr ⟨gg, _, fun H2 q => ⟨z.1.length - (i + 1), by omega, q⟩, fun x H2 y => ?_⟩
        obtain ⟨A2, r2, p2⟩ := yy x H2 y
        refine ⟨μ', Sx, wipeE ρ vs, _, ρ1, S3, r2, e'.mono r' A2, p2, h3, fun μ3 σ3 H3 A3 r3 e3 s3 => ⟨by
          rw [wipe_same s3 hj]
          exact wipe_same (js := vs) ⟨wipe_length _ _, fun j hjn => wipe_out hjn⟩ fun j hj => hj, μ3, S3, ρ1, b, S4, r3, e3, h4, fun μ4 H4 A4 r4 => ?_⟩⟩
        have B := (A2.trans A3).trans A4
        have dl4 : H4 Dl = some (.lst acc) := B.fr _ _ hacc nD
        have nD4 : Dl ∉ μ4 := fun mm => by
          have := B.nw _ mm nD
          rw [hacc] at this; cases this
        cases b with
        | true =>
          simp only [if_true] at hf ⊢
          obtain ⟨x5, S5, h5, hf⟩ := R.bind_ok hf
          obtain ⟨ys, S6, h6, hf⟩ := R.bind_ok hf
          cases hf
          refine tM_then r4 (e3.mono r3 A4) h5 fun μ5 v5 H5 A5 r5 e5 p5 => ?_
          have C := B.trans A5
          have dl5 : H5 Dl = some (.lst acc) := C.fr _ _ hacc nD
          have nD5 : Dl ∉ μ5 := fun mm => by
            have := C.nw _ mm nD
            rw [hacc] at this; cases this
          have qa := q.mono r' C
          have hlen : acc.length < sizeLine := by
            rw [q.length]
            have : xs.length = done.length + (x5 :: ys).length := by rw [ex, List.length_append]
            rw [List.length_cons] at this
            exact lim_lt (by omega)
          refine ⟨acc, dl5, hlen, trivial, hlt, μ5, S5, done ++ [x5], acc ++ [v5], ys, by rw [ex, List.append_assoc]; rfl, (A1.trans C).hole hD, r5.off dl5 nD5, upd_same, nD5, ?_, ?_, h6⟩
          · exact (qa.append (Reps.cons p5 Reps.nil)).off dl5
          · exact (((e'.mono r' A2).mono r2 (A3.trans (A4.trans A5)))).offL dl5
        | false =>
          simp only [Bool.false_eq_true, if_false] at hf ⊢
          exact ⟨trivial, hlt, μ4, S4, done, acc, rest, ex, A1.trans B, r4, dl4, nD4, q.mono r' B, (e'.mono r' A2).mono r2 (A3.trans A4), hf⟩
      · cases hf
    · have ei : i = z.1.length := by omega
      subst ei
      rw [List.drop_length] at hf
      unfold lcL at hf
      split at hf
      · rename_i hgd
        cases hf
        rw [List.append_nil] at ex
        subst ex
        refine .inl ⟨J1.stop μ' _ H' A1 r' hgd, ?_⟩
        refine k (μ' ++ [Dl]) (.ref Dl) H' (a1.trans ⟨?_, A1.fr, fun a ha hn => ?_⟩) (r'.adopt (c := .lst xs) ⟨acc, hacc, q⟩ nD) ?_
        · obtain ⟨tt, e⟩ := A1.pre
          exact ⟨tt ++ [Dl], by rw [e, List.append_assoc]⟩
        · rcases List.mem_append.mp ha with z | z
          · exact A1.nw a z hn
          · rw [List.mem_singleton.mp z]; exact hD
        · simp only [Rep]
          exact ⟨Dl, by rw [← r'.len]; simp, rfl⟩
      · cases hf
  · cases hm
theorem pm_lc {elt tg iter : Expr} {ifs : List Expr} {scope : Scope} (own : List (Str × Nat)) {pos : Pos} {it : MI} {g : MG} {js : List Nat} {t : MT} {m : ME} (hc : X.calm = true) (hN : X.N.Nodup) (hi : PMI X tg iter it) (ok : BlkOk X.N X.env.scope scope own)
    (hj : ∀ j ∈ js, j ∈ own.map (·.2))
    (hg : ∀ (s : Shared) (H : Hp) (C : Addr) (cl : List (Str × Addr)) (fp : List Addr), PMG (X.blk s H scope (compEnvC scope cl C X.env) fp) tg js g) (ht : ∀ (s : Shared) (H : Hp) (C : Addr) (cl : List (Str × Addr)) (fp : List Addr), PMTs (X.blk s H scope (compEnvC scope cl C X.env) fp) ifs t)
    (he : ∀ (s : Shared) (H : Hp) (C : Addr) (cl : List (Str × Addr)) (fp : List Addr), PM (X.blk s H scope (compEnvC scope cl C X.env) fp) elt m) (hs : ∀ x, foldedSetIterable iter X.env x = pure x := by intro _; rfl) :
    PM X (.ListComp elt [⟨tg, iter, ifs, 0⟩] scope pos) (mLc it g t m (own.map (·.2))) := PE.imp (pe_lc hc hN hi ok hg ht he hs) fun σ H Q h => lc_then hj h
theorem pms_setLc (i : Nat) {y : Str} {py : Pos} {elt tg iter : Expr} {ifs : List Expr} {scope : Scope} (own : List (Str × Nat)) {pos spos : Pos} {it : MI} {g : MG} {js : List Nat} {t : MT} {m : ME} (hc : X.calm = true) (hN : X.N.Nodup) (hsw : swapsWith (.ListComp elt [⟨tg, iter, ifs, 0⟩] scope pos) (some (.Name y py)) spos.line X.env = pure true) (hi : PMI X tg iter it) (ok : BlkOk X.N X.env.scope scope own)
    (hj : ∀ j ∈ js, j ∈ own.map (·.2))
    (hg : ∀ (s : Shared) (H : Hp) (C : Addr) (cl : List (Str × Addr)) (fp : List Addr), PMG (X.blk s H scope (compEnvC scope cl C X.env) fp) tg js g) (ht : ∀ (s : Shared) (H : Hp) (C : Addr) (cl : List (Str × Addr)) (fp : List Addr), PMTs (X.blk s H scope (compEnvC scope cl C X.env) fp) ifs t)
    (he : ∀ (s : Shared) (H : Hp) (C : Addr) (cl : List (Str × Addr)) (fp : List Addr), PM (X.blk s H scope (compEnvC scope cl C X.env) fp) elt m) (hy : X.N[i]? = some y := by rfl) (hyl : X.env.scope.names.lookup y = some .local := by rfl)
    (hs : ∀ x, foldedSetIterable iter X.env x = pure x := by intro _; rfl) :
    PMS X (.Assign [.Name y py] (.ListComp elt [⟨tg, iter, ifs, 0⟩] scope pos) spos) (sAsg (mLc it g t m (own.map (·.2))) (gmName i)) := PS.imp (ps_setLc hc hN hy hyl hsw hi ok hg ht he hs) fun D σ H h => by
  obtain ⟨μ, S, ρ, o, S', r, er, hm, k⟩ := h
  obtain ⟨d1, S1, h1, hm⟩ := R.bind_ok hm
  cases hm
  exact lc_then hj (tM_then r er h1 fun μ1 x H1 a1 r1 e1 p1 => k μ1 _ H1 a1 r1 (e1.set i p1))
end
end En
namespace En
open PySem L2

/-! ### a def by its body -/
def startE (N : Nat) (ds : List D) : Env := ds.map some ++ List.replicate (N - ds.length) none
def mFun (N n : Nat) (body : MS) : MF := fun ds S => if ds.length = n then match body (startE N ds) S with
    | .ok (.ret d) S' => .ok d S'
    | .ok (.next _) S' => .ok .non S'
    | _ => .bad
  else .bad
theorem takes_fun {N n : Nat} {body : MS} : Takes0 n (mFun N n body) := fun ds S d S' h => by
  unfold mFun at h
  split at h
  · assumption
  · cases h
theorem env_start {K : PySem.W.Frag} {μ : List Addr} {H : Hp} {N : List Str} {ds : List D} {vs : List V} (q : Reps K μ H ds vs) : EnvR K μ H (startE N.length ds) (L2.start N vs) := by
  have el := q.length
  refine ⟨by unfold startE L2.start; simp [el], fun i d h => ?_⟩
  unfold startE at h
  unfold L2.start
  by_cases hi : i < ds.length
  · rw [List.getElem?_append_left (by simpa using hi), List.getElem?_map] at h
    cases e : ds[i]? with
    | none => rw [e] at h; cases h
    | some x =>
      rw [e] at h
      cases h
      obtain ⟨v, h1, h2⟩ := q.get e
      refine ⟨v, ?_, h2⟩
      rw [List.getElem?_append_left (by simpa [el] using hi), List.getElem?_map, h1]
      rfl
  · rw [List.getElem?_append_right (by simpa using hi), List.getElem?_replicate] at h
    split at h <;> cases h
theorem fn_ok {P : Program} {w : World} {K : PySem.W.Frag} {mg : Str → Option Value} {base : Heap} {x qual : Str} {params : Arguments} {body : List Stmt} {scope : Scope} {f : Addr} {fd : FuncData} {N ps : List Str} {k : Nat} {mb : MS}
    {dvs : List V} {kws : List (Str × V)} (F : FunD K x qual params body scope dvs kws f fd) (Sc : FnScope N ps scope)
    (hb : ∀ (cdv : Value) (A : Around) (outer : List PySem.Env) (s : Shared) (H : Hp) (E : XK), Room k (A.deeper (PyProof.Rows.envOfC qual scope s.heap.objs.size f cdv)) →
      PMSs (cxOf CX0 P w K mg base N qual scope f cdv A outer s H E).nox body mb) :
    FnOk P w K mg base CX0 (k + 1) f fd ps (spM K ps.length (mFun N.length ps.length mb)) := by
  refine F.ok Sc (fun vs H Q E h => h.1) fun cdv A outer s H vs Q E hr h => ⟨_, (hb cdv A outer s H E hr).nox, ?_⟩
  obtain ⟨hl, μ, S, ds, d, S', r, q, hm, kk⟩ := h
  unfold mFun at hm
  split at hm
  · cases e : mb (startE N.length ds) S with
    | bad => rw [e] at hm; cases hm
    | ok o S1 =>
      rw [e] at hm
      cases o with
      | ret d' => cases hm; exact ⟨μ, S, _, _, _, r, env_start q, e, kk⟩
      | next ρ => cases hm; exact ⟨μ, S, _, _, _, r, env_start q, e, fun μ' σ' H' a r' _ => kk μ' _ H' a r' repN⟩
      | brk _ => cases hm
      | cont _ => cases hm
  · cases hm
/-! ### calls with keywords -/
def pick {α : Type} (ix : List Nat) (l : List α) : List α := ix.filterMap fun i => l[i]?
theorem Vals.pick {vs : List V} {us : List Value} (r : Vals vs us) : ∀ ix : List Nat, Vals (En.pick ix vs) (En.pick ix us)
  | [] => .nil
  | i :: ix => by
    have ih := Vals.pick r ix
    unfold En.pick at ih ⊢
    rw [List.filterMap_cons, List.filterMap_cons]
    cases e : vs[i]? with
    | none => rw [r.none_of e]; exact ih
    | some v =>
      obtain ⟨u, h1, h2⟩ := r.get e
      rw [h1]
      exact .cons h2 ih
theorem Reps.pick {K : PySem.W.Frag} {μ : List Addr} {H : Hp} {ds : List D} {vs : List V} (r : Reps K μ H ds vs) : ∀ ix : List Nat, Reps K μ H (En.pick ix ds) (En.pick ix vs)
  | [] => Reps.nil
  | i :: ix => by
    have ih := Reps.pick r ix
    unfold En.pick at ih ⊢
    rw [List.filterMap_cons, List.filterMap_cons]
    cases e : ds[i]? with
    | none =>
      have : vs[i]? = none := List.getElem?_eq_none (by rw [r.length]; exact List.getElem?_eq_none_iff.mp e)
      rw [this]; exact ih
    | some d =>
      obtain ⟨v, h1, h2⟩ := r.get e
      rw [h1]
      exact Reps.cons h2 ih
/-- how a call with so many positional values and these keywords binds -/
structure KB (K : PySem.W.Frag) (fd : FuncData) (ps : List Str) (n : Nat) (ks : List Str) (ix : List Nat) : Prop where
  to : ∀ (s : Shared) (us ws : List Value), K.In s.heap → us.length = n → ws.length = ks.length → BindsTo s fd ⟨us, ks.zip ws⟩ (ps.zip (En.pick ix (us ++ ws)))
  ln : ix.length = ps.length
  bd : ∀ i ∈ ix, i < n + ks.length
theorem pick_len {α : Type} {l : List α} : ∀ {ix : List Nat}, (∀ i ∈ ix, i < l.length) → (En.pick ix l).length = ix.length
  | [], _ => rfl
  | i :: ix, h => by
    have hi := h i List.mem_cons_self
    unfold En.pick
    rw [List.filterMap_cons, List.getElem?_eq_getElem hi]
    show ((En.pick ix l).length + 1) = _
    rw [pick_len fun j hj => h j (List.mem_cons_of_mem _ hj)]
    rfl
theorem kb_of {K : PySem.W.Frag} {x qual : Str} {params : Arguments} {body : List Stmt} {scope : Scope} {kws : List (Str × V)} {f : Addr} {fd : FuncData} {ps ks : List Str} {n : Nat} {ix : List Nat} (F : FunD K x qual params body scope [] kws f fd)
    (h : ∀ (kV doc pm : Value) (an : Option Addr) (cdv ct : Value) (us ws : List Value), us.length = n → ws.length = ks.length → bindArgs (PySem.W.fnOf x qual params body scope .none kV doc pm an cdv ct) ⟨us, ks.zip ws⟩ = pure (ps.zip (En.pick ix (us ++ ws))))
    (hl : ix.length = ps.length := by rfl) (hb : ∀ i ∈ ix, i < n + ks.length := by decide) : KB K fd ps n ks ix := by
  obtain ⟨oc, od, dV, kV, doc, pm, an, cdv, ct, osl, rfl, lk, hcd, hD, hK⟩ := F.ex
  rcases hD with ⟨_, rfl⟩ | ⟨e, _⟩
  · exact ⟨fun s us ws _ h1 h2 => .of_eq (h kV doc pm an cdv ct us ws h1 h2), hl, hb⟩
  · exact absurd rfl e
section
variable {X : Cx} {k n np : Nat} {f : Addr} {fd : FuncData} {ps ks : List Str} {x : Str} {p pos : Pos} {e : Expr} {es : List Expr} {kws : List Keyword} {ix : List Nat} {g : MF} {ms mk : MA} {nm : Option Str} {kpos : Pos} {m : ME}
abbrev PMK (X : Cx) (kws : List Keyword) (m : MA) : Prop := PK X kws (tMA X.K m)
theorem PK.imp {kws : List Keyword} {t t' : TA} (h : PK X kws t) (w : ∀ σ H Q, t' σ H Q → t σ H Q) : PK X kws t' := ⟨fun pos pins s σ H Q I q => h.run pos pins s σ H Q I (w σ H Q q)⟩
theorem pmk_nil : PMK X [] mNil := PK.imp pk_nil fun σ H Q h => by
  obtain ⟨μ, S, ρ, ds, S', r, er, hm, k⟩ := h
  cases hm
  exact k μ _ H After.refl r Reps.nil
theorem pmk_cons (ha : PM X e m) (hr : PMK X kws ms) : PMK X (⟨nm, e, kpos⟩ :: kws) (mCons m ms) := PK.imp (pk_cons ha hr) fun σ H Q h => by
  obtain ⟨μ, S, ρ, ds, S', r, er, hm, k⟩ := h
  obtain ⟨d1, S1, h1, hm⟩ := R.bind_ok hm
  obtain ⟨d2, S2, h2, hm⟩ := R.bind_ok hm
  cases hm
  refine tM_then r er h1 fun μ1 x H1 a1 r1 e1 p1 => tMA_then r1 e1 h2 fun μ2 xs H2 a2 r2 e2 p2 => ?_
  exact k μ2 _ H2 (a1.trans a2) r2 (Reps.cons (p1.mono r1 a2) p2)
def mCallK (g : MF) (np : Nat) (nk : Nat) (ix : List Nat) (ms mk : MA) : ME := fun ρ S => (ms ρ S).bind fun ds S1 => (mk ρ S1).bind fun es S2 => if ds.length = np ∧ es.length = nk then g (En.pick ix (ds ++ es)) S2 else .bad
theorem run_kb {pins : List (Addr × Obj)} {σ : L2.St} {H : Hp} {s : Shared} {Q : VK} {us ws : List Value} {vs zs : List V} (F : FnOk X.prog X.w X.K X.mg X.base CX0 k f fd ps (spM X.K n g)) (hr : Room k X.A) (hb : KB X.K fd ps np ks ix)
    (I : Inv X pins σ H s) (r : Vals vs us) (rz : Vals zs ws) (l1 : vs.length = np) (l2 : zs.length = ks.length) (h : spM X.K n g (En.pick ix (vs ++ zs)) H Q E0) : wpAny (model X.prog X.w) X.A (call (.ref f) us (ks.zip ws)) (EP X pins σ Q) X.xe s := by
  have r2 := Vals.pick (r.append rz) ix
  refine wpAny_call (codeAny_mono (F.run X.A X.stack s H ⟨us, ks.zip ws⟩ (En.pick ix (us ++ ws)) _ Q E0 hr I.env0 (hb.to s us ws I.kIn (r.length.symm.trans l1) (rz.length.symm.trans l2)) r2 h) fun r s' hq => ?_)
  cases r with
  | error e => exact False.elim hq
  | ok fl =>
    cases fl with
    | ret u => exact I.after hq
    | next => exact False.elim hq
    | brk => exact False.elim hq
    | cont => exact False.elim hq
theorem kw_then {K : PySem.W.Frag} {σ : L2.St} {H : Hp} {Q : VK} (hl : ix.length = n) (hbd : ∀ i ∈ ix, i < np + ks.length) (h : tM K (mCallK g np ks.length ix ms mk) σ H Q) :
    tMA K ms σ H fun vs H1 => tMA K mk σ H1 fun zs H2 => vs.length = np ∧ zs.length = ks.length ∧ spM K n g (En.pick ix (vs ++ zs)) H2 Q E0 := by
  obtain ⟨μ, S, ρ, d, S', r, er, hm, kk⟩ := h
  obtain ⟨d1, S1, h1, hm⟩ := R.bind_ok hm
  obtain ⟨d2, S2, h2, hm⟩ := R.bind_ok hm
  refine tMA_then r er h1 fun μ1 vs H1 a1 r1 e1 p1 => tMA_then r1 e1 h2 fun μ2 zs H2 a2 r2 e2 p2 => ?_
  split at hm
  · rename_i hln
    have l1 : vs.length = np := by rw [p1.length]; exact hln.1
    have l2 : zs.length = ks.length := by rw [p2.length]; exact hln.2
    refine ⟨l1, l2, ?_, μ2, S2, _, d, S', r2, Reps.pick ((p1.mono r1 a2).append p2) ix, hm, kk.after (a1.trans a2)⟩
    rw [pick_len fun i hi => by rw [List.length_append, l1, l2]; exact hbd i hi, hl]
  · cases hm
/-- f(k = v, ..) -/
theorem pm_callK0 (F : FnOk X.prog X.w X.K X.mg X.base CX0 k f fd ps (spM X.K ps.length g)) (hr : Room k X.A) (hg : Gl X x) (hm : X.mg x = some (.ref f)) (hk : PySem.W.keepIn X.K (.ref f) = true) (hb : KB X.K fd ps 0 ks ix)
    (hkw : PMK X kws mk) (hall : (backToKw pos (keywordEach kws X.env)).all (·.1.isSome) = true := by rfl) (hks : (backToKw pos (keywordEach kws X.env)).filterMap (·.1) = ks := by rfl)
    (hdb : (x == ("__debug__" : Str)) = false := by decide)
    (hpl : ((backTo pos (starEach [] X.env)).any (·.1) || (backToKw pos (keywordEach kws X.env)).any (·.1.isNone)) = false := by rfl) :
    PM X (.Call (.Name x p) [] kws pos) (mCallK g 0 ks.length ix mNil mk) := ⟨fun pins s σ H Q I h => by
  refine wpAny_Call_Name_kw (ld_glob I hg hm ?_ hdb)
  refine PySem.W.callWith_KW0 (h₀ := X.base) I.ok.mod.kin hk hall ?_ hpl
  have hh := kw_then hb.ln hb.bd h
  have e0 : tMA X.K mk σ H fun zs H2 => zs.length = ks.length ∧ spM X.K ps.length g (En.pick ix ([] ++ zs)) H2 Q E0 := by
    obtain ⟨μ, S, ρ, d, S', r, er, hm2, kk⟩ := h
    obtain ⟨d2, S2, h2, hm2⟩ := R.bind_ok (show ((mk ρ S).bind fun es S2 => if ([] : List D).length = 0 ∧ es.length = ks.length then g (En.pick ix ([] ++ es)) S2 else .bad) = .ok d S' from hm2)
    refine tMA_then r er h2 fun μ2 zs H2 a2 r2 e2 p2 => ?_
    split at hm2
    · rename_i hln
      have l2 : zs.length = ks.length := by rw [p2.length]; exact hln.2
      refine ⟨l2, ?_, μ2, S2, _, d, S', r2, Reps.pick (Reps.nil.append p2) ix, hm2, kk.after a2⟩
      rw [pick_len fun i hi => by rw [List.length_append, l2]; exact hb.bd i hi, hb.ln]
    · cases hm2
  refine thn (hkw.run pos pins s σ H _ I e0) fun ws s2 ⟨zs, H2, I2, rz, l2, q2⟩ => ⟨I2.kIn, ?_⟩
  rw [hks]
  exact run_kb (vs := []) F hr hb I2 .nil rz rfl l2 q2⟩
/-- f(e, .., k = v, ..) -/
theorem pm_callK (F : FnOk X.prog X.w X.K X.mg X.base CX0 k f fd ps (spM X.K ps.length g)) (hr : Room k X.A) (hg : Gl X x) (hm : X.mg x = some (.ref f)) (hk : PySem.W.keepIn X.K (.ref f) = true) (hb : KB X.K fd ps np ks ix)
    (ha : PMA X (e :: es) ms) (hkw : PMK X kws mk) (hall : (backToKw pos (keywordEach kws X.env)).all (·.1.isSome) = true := by rfl) (hks : (backToKw pos (keywordEach kws X.env)).filterMap (·.1) = ks := by rfl)
    (hdb : (x == ("__debug__" : Str)) = false := by decide) (he : starEach (e :: es) X.env = (false, eval e X.env) :: starEach es X.env := by rfl)
    (hpl : ((backTo pos (starEach (e :: es) X.env)).any (·.1) || (backToKw pos (keywordEach kws X.env)).any (·.1.isNone)) = false := by rfl) :
    PM X (.Call (.Name x p) (e :: es) kws pos) (mCallK g np ks.length ix ms mk) := ⟨fun pins s σ H Q I h => by
  refine wpAny_Call_Name_kw (ld_glob I hg hm ?_ hdb)
  refine PySem.W.callWith_KW (h₀ := X.base) I.ok.mod.kin hk hall (thn (ha.run pos pins s σ H _ I (kw_then hb.ln hb.bd h)) fun us s1 ⟨vs, H1, I1, r, q⟩ => ?_) hpl he
  refine thn (hkw.run pos pins s1 σ H1 _ I1 q) fun ws s2 ⟨zs, H2, I2, rz, l1, l2, q2⟩ => ⟨I2.kIn, ?_⟩
  rw [hks]
  exact run_kb F hr hb I2 r rz l1 l2 q2⟩

/-! ### is, of None and of bools; several targets -/
def isD : F2 := fun a b S => match b with
  | .non => .ok (.bl (isNon a)) S
  | .bl c => match a with
    | .bl d => .ok (.bl (decide (d = c))) S
    | _ => .bad
  | _ => .bad
def isNotD : F2 := fun a b S => match b with
  | .non => .ok (.bl (!isNon a)) S
  | .bl c => match a with
    | .bl d => .ok (.bl (!decide (d = c))) S
    | _ => .bad
  | _ => .bad
theorem o_is : O2 X (compareOp .Is) isD := OpR.imp (op_isN.or op_isBl) fun x y H Q ⟨μ, S, a, b, d, S', r, pa, pb, h, k⟩ => by
  unfold isD at h
  split at h
  · cases h
    refine .inl ⟨rep_non pb, ?_⟩
    rw [non_iff pa]
    exact k.bl r
  · split at h
    · cases h
      exact .inr ⟨_, _, rep_bl pa, rep_bl pb, k.bl r⟩
    · cases h
  · cases h
theorem o_isnt : O2 X (compareOp .IsNot) isNotD := OpR.imp (op_notN.or op_notBl) fun x y H Q ⟨μ, S, a, b, d, S', r, pa, pb, h, k⟩ => by
  unfold isNotD at h
  split at h
  · cases h
    refine .inl ⟨rep_non pb, ?_⟩
    rw [non_iff pa]
    exact k.bl r
  · split at h
    · cases h
      exact .inr ⟨_, _, rep_bl pa, rep_bl pb, k.bl r⟩
    · cases h
  · cases h
theorem PG.or {tg : Expr} {w1 w2 : TG} (h1 : PG X tg w1) (h2 : PG X tg w2) : PG X tg (fun v σ H Q => w1 v σ H Q ∨ w2 v σ H Q) := ⟨fun pins s σ H v u Q I rv q => q.elim (h1.run pins s σ H v u Q I rv) (h2.run pins s σ H v u Q I rv)⟩
/-- a, b, .. = a tuple or a list of that length -/
def gmSeq (n : Nat) (u : MGs) : MG := fun d ρ S => match itsD S d with
  | some ds => if ds.length = n then u ds ρ S else .bad
  | _ => .bad
theorem pmg_seq {es : List Expr} {kk : Nat} {u : MGs} {n : Nat} {js : List Nat} (hc : X.calm = true) (h : PMGs X es js u) (hn : (assignEach es X.env).length = n := by rfl) (hst : (assignEach es X.env).findIdx? (·.1) = none := by rfl) : PMG X (.Tuple es kk pos) js (gmSeq n u) := PG.imp (PG.or (pg_tup hc h hn hst) (pg_lst hc h hn hst)) fun v σ H Q h => by
  obtain ⟨μ, S, ρ, d, ρ', S', r, er, p, hm, k⟩ := h
  unfold gmSeq at hm
  split at hm
  · rename_i ds hd
    split at hm
    · rename_i hl
      rcases lstD_of_its hd with rfl | hls
      · obtain ⟨a, vs, rfl, hs, q⟩ := rep_tup p
        exact .inl ⟨a, vs, rfl, hs, by rw [q.length]; exact hl, μ, S, ρ, _, ρ', S', r, er, q, hm, k⟩
      · obtain ⟨a, vs, rfl, hs, q⟩ := lst_rep r hls p
        exact .inr ⟨a, vs, rfl, hs, by rw [q.length]; exact hl, μ, S, ρ, _, ρ', S', r, er, q, hm, k⟩
    · cases hm
  · cases hm
def sPar2 (i j : Nat) (u : MA) : MS := fun ρ S => (u ρ S).bind fun ds S1 => match ds with
  | [a, b] => .ok (.next ((ρ.set i (some a)).set j (some b))) S1
  | _ => .bad
def sPar3 (i j l : Nat) (u : MA) : MS := fun ρ S => (u ρ S).bind fun ds S1 => match ds with
  | [a, b, c] => .ok (.next (((ρ.set i (some a)).set j (some b)).set l (some c))) S1
  | _ => .bad
theorem reps3 {K : PySem.W.Frag} {μ : List Addr} {H : Hp} {d e c : D} {vs : List V} (h : Reps K μ H [d, e, c] vs) : ∃ v w u, vs = [v, w, u] ∧ Rep K μ H d v ∧ Rep K μ H e w ∧ Rep K μ H c u := by
  simp only [Reps] at h
  obtain ⟨v, r, rfl, h1, w, r', rfl, h2, u, r'', rfl, h3, rfl⟩ := h
  exact ⟨v, w, u, rfl, h1, h2, h3⟩
theorem pms_par2 (i j : Nat) {x y : Str} {a b : Expr} {px py pt : Pos} {kt k2 pt2} (hc : X.calm = true) (hN : X.N.Nodup) (ha : PMA X [a, b] ms) (hi : X.N[i]? = some x := by rfl) (hj : X.N[j]? = some y := by rfl) (hij : i ≠ j := by decide)
    (hx : X.env.scope.names.lookup x = some .local := by rfl) (hy : X.env.scope.names.lookup y = some .local := by rfl)
    (hw : swappedStores [.Tuple [.Name x px, .Name y py] kt pt] (.Tuple [a, b] k2 pt2) X.env = pure (some [x, y]) := by rfl)
    (hs : swapsWithSole [.Tuple [.Name x px, .Name y py] kt pt] (.Tuple [a, b] k2 pt2) pos.line X.env = pure false := by rfl) :
    PMS X (.Assign [.Tuple [.Name x px, .Name y py] kt pt] (.Tuple [a, b] k2 pt2) pos) (sPar2 i j ms) := PS.imp (ps_par hc hN hi hj hij hx hy ha hw hs) fun D σ H h => by
  obtain ⟨μ, S, ρ, o, S', r, er, hm, k⟩ := h
  obtain ⟨d1, S1, h1, hm⟩ := R.bind_ok hm
  refine tMA_then r er h1 fun μ1 vs H1 a1 r1 e1 p1 => ?_
  split at hm
  · cases hm
    obtain ⟨v, w, rfl, q1, q2⟩ := reps2 p1
    exact ⟨v, w, rfl, k μ1 _ H1 a1 r1 ((e1.set i q1).set j q2)⟩
  · cases hm
theorem pms_par3 (i j l : Nat) {x y z : Str} {a b c : Expr} {px py pz pt : Pos} {kt k2 pt2} (hc : X.calm = true) (hN : X.N.Nodup) (ha : PMA X [a, b, c] ms) (hi : X.N[i]? = some x := by rfl) (hj : X.N[j]? = some y := by rfl) (hl : X.N[l]? = some z := by rfl) (hij : i ≠ j := by decide) (hil : i ≠ l := by decide) (hjl : j ≠ l := by decide)
    (hx : X.env.scope.names.lookup x = some .local := by rfl) (hy : X.env.scope.names.lookup y = some .local := by rfl) (hz : X.env.scope.names.lookup z = some .local := by rfl)
    (hw : swappedStores [.Tuple [.Name x px, .Name y py, .Name z pz] kt pt] (.Tuple [a, b, c] k2 pt2) X.env = pure (some [x, y, z]) := by rfl)
    (hs : swapsWithSole [.Tuple [.Name x px, .Name y py, .Name z pz] kt pt] (.Tuple [a, b, c] k2 pt2) pos.line X.env = pure false := by rfl) :
    PMS X (.Assign [.Tuple [.Name x px, .Name y py, .Name z pz] kt pt] (.Tuple [a, b, c] k2 pt2) pos) (sPar3 i j l ms) := PS.imp (ps_par3 hc hN hi hj hl hij hil hjl hx hy hz ha hw hs) fun D σ H h => by
  obtain ⟨μ, S, ρ, o, S', r, er, hm, k⟩ := h
  obtain ⟨d1, S1, h1, hm⟩ := R.bind_ok hm
  refine tMA_then r er h1 fun μ1 vs H1 a1 r1 e1 p1 => ?_
  split at hm
  · cases hm
    obtain ⟨v, w, u, rfl, q1, q2, q3⟩ := reps3 p1
    exact ⟨v, w, u, rfl, k μ1 _ H1 a1 r1 (((e1.set i q1).set j q2).set l q3)⟩
  · cases hm
end
end En
namespace En
open PySem L2
/-! ### what stands behind the top, by names -/
def fdOf (K : PySem.W.Frag) (f : Addr) : Option FuncData := match K.lookup f with
  | some ⟨_, _, .func fd, _⟩ => some fd
  | _ => none
theorem FunD.fdOf {K : PySem.W.Frag} {x qual : Str} {params : Arguments} {body : List Stmt} {scope : Scope} {dvs : List V} {kws : List (Str × V)} {f : Addr} {fd : FuncData} (F : FunD K x qual params body scope dvs kws f fd) : En.fdOf K f = some fd := by
  obtain ⟨oc, od, dV, kV, doc, pm, an, cdv, ct, osl, rfl, lk, _⟩ := F.ex
  unfold En.fdOf
  rw [lk]
/-- a def of the text that may be called: what it gives, at every base -/
structure Cl (P : Program) (w : World) (K : PySem.W.Frag) (mg : Str → Option Value) (base : Heap) (x : Str) (k : Nat) (ps : List Str) (f : Addr) (fd : FuncData) (g : MF) : Prop where
  ok : FnOk P w K mg base CX0 k f fd ps (spM K ps.length g)
  mgx : mg x = some (.ref f)
  kp : PySem.W.keepIn K (.ref f) = true
  bd : Binds K fd ps []
  tk : Takes0 ps.length g
section
variable {X : Cx} {e a : Expr} {es : List Expr} {kws : List Keyword} {ms mk : MA} {k : Nat} {f : Addr} {fd : FuncData} {ps ks : List Str} {x : Str} {p pos : Pos} {g : MF} {ix : List Nat} {np : Nat} {ma : ME}
theorem pm_c (C : Cl X.prog X.w X.K X.mg X.base x k ps f fd g) (hr : Room k X.A) (hg : Gl X x) (ha : PMA X (e :: es) ms) (hdb : (x == ("__debug__" : Str)) = false := by decide) (he : starEach (e :: es) X.env = (false, eval e X.env) :: starEach es X.env := by rfl) (hpl : (backTo pos (starEach es X.env)).any (·.1) = false := by rfl) :
    PM X (.Call (.Name x p) (e :: es) [] pos) (mCall g ms) := pm_call C.ok hr hg C.mgx C.kp C.bd C.tk ha hdb he hpl
theorem pm_c0 (C : Cl X.prog X.w X.K X.mg X.base x k [] f fd g) (hr : Room k X.A) (hg : Gl X x) (hdb : (x == ("__debug__" : Str)) = false := by decide) :
    PM X (.Call (.Name x p) [] [] pos) (mCall g mNil) := pm_call0 C.ok hr hg C.mgx C.kp C.bd hdb
theorem pm_ck0 (C : Cl X.prog X.w X.K X.mg X.base x k ps f fd g) (hr : Room k X.A) (hg : Gl X x) (hb : KB X.K fd ps 0 ks ix)
    (hkw : PMK X kws mk) (hall : (backToKw pos (keywordEach kws X.env)).all (·.1.isSome) = true := by rfl) (hks : (backToKw pos (keywordEach kws X.env)).filterMap (·.1) = ks := by rfl)
    (hdb : (x == ("__debug__" : Str)) = false := by decide)
    (hpl : ((backTo pos (starEach [] X.env)).any (·.1) || (backToKw pos (keywordEach kws X.env)).any (·.1.isNone)) = false := by rfl) {nk : Nat} (hnk : ks.length = nk := by rfl) :
    PM X (.Call (.Name x p) [] kws pos) (mCallK g 0 nk ix mNil mk) := by
  subst hnk
  exact pm_callK0 C.ok hr hg C.mgx C.kp hb hkw hall hks hdb hpl
theorem pm_ck (C : Cl X.prog X.w X.K X.mg X.base x k ps f fd g) (hr : Room k X.A) (hg : Gl X x) (hb : KB X.K fd ps np ks ix)
    (ha : PMA X (e :: es) ms) (hkw : PMK X kws mk) (hall : (backToKw pos (keywordEach kws X.env)).all (·.1.isSome) = true := by rfl) (hks : (backToKw pos (keywordEach kws X.env)).filterMap (·.1) = ks := by rfl)
    (hdb : (x == ("__debug__" : Str)) = false := by decide) (he : starEach (e :: es) X.env = (false, eval e X.env) :: starEach es X.env := by rfl)
    (hpl : ((backTo pos (starEach (e :: es) X.env)).any (·.1) || (backToKw pos (keywordEach kws X.env)).any (·.1.isNone)) = false := by rfl) {nk : Nat} (hnk : ks.length = nk := by rfl) :
    PM X (.Call (.Name x p) (e :: es) kws pos) (mCallK g np nk ix ms mk) := by
  subst hnk
  exact pm_callK C.ok hr hg C.mgx C.kp hb ha hkw hall hks hdb he hpl
theorem pm_gint {i : Int} (hg : Gl X x) (hm : ∃ t, X.mg x = some (.int i t)) (hd : (x == ("__debug__" : Str)) = false := by decide) : PM X (.Name x pos) (mC (.int i)) := by
  obtain ⟨t, h⟩ := hm
  exact pm_glob (v := .int i) hg h ⟨t, rfl⟩ rfl hd
theorem pm_gstr {i : Str} (hg : Gl X x) (hm : ∃ t, X.mg x = some (.str i t)) (hd : (x == ("__debug__" : Str)) = false := by decide) : PM X (.Name x pos) (mC (.str i)) := by
  obtain ⟨t, h⟩ := hm
  exact pm_glob (v := .str i) hg h ⟨t, rfl⟩ rfl hd
end
theorem u65 {k : Nat} {A : Around} (r : Room k A) : A.units + 65 < cLine := by have := r.un; omega
theorem u64 {k : Nat} {A : Around} (r : Room k A) : A.units + 64 < cLine := by have := r.un; omega
theorem bt_len : bootBuiltins "len" = some (.builtin "len") := by decide +kernel
theorem bt_abs : bootBuiltins "abs" = some (.builtin "abs") := by decide +kernel
theorem bt_max : bootBuiltins "max" = some (.builtin "max") := by decide +kernel
theorem bt_min : bootBuiltins "min" = some (.builtin "min") := by decide +kernel
theorem bt_any : bootBuiltins "any" = some (.builtin "any") := by decide +kernel
theorem bt_all : bootBuiltins "all" = some (.builtin "all") := by decide +kernel
theorem bt_sum : bootBuiltins "sum" = some (.builtin "sum") := by decide +kernel
theorem bt_divmod : bootBuiltins "divmod" = some (.builtin "divmod") := by decide +kernel
theorem bt_int : bootBuiltins "int" = some (.type "int") := by decide +kernel
theorem bt_bool : bootBuiltins "bool" = some (.type "bool") := by decide +kernel
theorem bt_str : bootBuiltins "str" = some (.type "str") := by decide +kernel
theorem bt_tuple : bootBuiltins "tuple" = some (.type "tuple") := by decide +kernel
theorem bt_list : bootBuiltins "list" = some (.type "list") := by decide +kernel
theorem bt_dict : bootBuiltins "dict" = some (.type "dict") := by decide +kernel
theorem it_int : (tyNs.all fun t => decide (kitB t "int" = some (isT t "int"))) = true := by decide +kernel
theorem it_bool : (tyNs.all fun t => decide (kitB t "bool" = some (isT t "bool"))) = true := by decide +kernel
theorem it_str : (tyNs.all fun t => decide (kitB t "str" = some (isT t "str"))) = true := by decide +kernel
theorem it_tuple : (tyNs.all fun t => decide (kitB t "tuple" = some (isT t "tuple"))) = true := by decide +kernel
theorem it_list : (tyNs.all fun t => decide (kitB t "list" = some (isT t "list"))) = true := by decide +kernel
theorem it_dict : (tyNs.all fun t => decide (kitB t "dict" = some (isT t "dict"))) = true := by decide +kernel
theorem fn_bad {P : Program} {w : World} {K : PySem.W.Frag} {mg : Str → Option Value} {base : Heap} {k : Nat} {f : Addr} {fd : FuncData} {ps : List Str} : FnOk P w K mg base CX0 k f fd ps (spM K ps.length fun _ _ => .bad) :=
  ⟨fun _ _ _ _ h => h.1, fun A outer s H args us vs Q E _ _ _ _ h => by
    obtain ⟨_, μ, S, ds, d, S', _, _, hm, _⟩ := h
    cases hm⟩
theorem takes_bad {n : Nat} : Takes0 n fun _ _ => .bad := fun _ _ _ _ h => by cases h
/-! ### the script -/
theorem rel_nil {K : PySem.W.Frag} {H : Hp} : Rel K [] [] H := ⟨rfl, List.nodup_nil, fun i c a h => by simp at h⟩
theorem rep_script {K : PySem.W.Frag} {H : Hp} {a : Addr} {ns : List Int} (o : Only H) (h : SqL K H a (ns.map V.int)) : Rep K [] H (.rol (ns.map D.int)) (.ref a) := by
  simp only [Rep]
  refine ⟨a, _, rfl, ?_, reps_ints ns⟩
  rcases h with (h | ⟨ob, h⟩) | h
  · rcases o a with q | ⟨ob, xs, q⟩ <;> (rw [h] at q; cases q)
  · exact .inl ⟨ob, h⟩
  · exact .inr h
/-- the law's def gives True at each script: what the end asks -/
theorem sp_law {K : PySem.W.Frag} {g : MF} {H : Hp} {a : Addr} {ns : List Int} {S' : Sto} (o : Only H) (h : SqL K H a (ns.map V.int)) (hg : g [.rol (ns.map D.int)] [] = .ok (.bl true) S') :
    spM K 1 g [.ref a] H (fun v _ => v = .bl true) fun _ _ _ => False :=
  ⟨rfl, [], [], _, _, S', rel_nil, Reps.cons (rep_script o h) Reps.nil, hg, fun μ' v H' _ _ q => rep_bl q⟩
end En
namespace En
open PySem L2
/-! ### what a mirror gives -/
def W {α : Type} (r : R α) (Q : α → Sto → Prop) : Prop := ∃ a S, r = .ok a S ∧ Q a S
theorem W_ok {α : Type} {a : α} {S : Sto} {Q : α → Sto → Prop} : W (R.ok a S) Q = Q a S := propext ⟨fun ⟨a', S', e, q⟩ => by cases e; exact q, fun q => ⟨a, S, rfl, q⟩⟩
theorem W_bad {α : Type} {Q : α → Sto → Prop} : W (R.bad : R α) Q = False := propext ⟨fun ⟨_, _, e, _⟩ => (nomatch e), fun q => False.elim q⟩
theorem W_bind {α β : Type} {r : R α} {f : α → Sto → R β} {Q : β → Sto → Prop} : W (r.bind f) Q = W r fun a S => W (f a S) Q := propext ⟨fun ⟨a', S', e, q⟩ => by
  obtain ⟨a, S, h1, h2⟩ := R.bind_ok e
  exact ⟨a, S, h1, a', S', h2, q⟩, fun ⟨a, S, h1, a', S', h2, q⟩ => ⟨a', S', by rw [h1]; exact h2, q⟩⟩
theorem W.imp {α : Type} {r : R α} {Q Q' : α → Sto → Prop} (h : W r Q) (k : ∀ a S, Q a S → Q' a S) : W r Q' := let ⟨a, S, e, q⟩ := h; ⟨a, S, e, k a S q⟩
theorem W_ite {α : Type} {c : Prop} [Decidable c] {r s : R α} {Q : α → Sto → Prop} : W (if c then r else s) Q = if c then W r Q else W s Q := by split <;> rfl
/-! ### stores -/
/-- all that stood stands -/
def Sub (S S' : Sto) : Prop := ∀ (i : Nat) (c : C), S[i]? = some c → S'[i]? = some c
/-- all but the place b -/
def SubB (b : Nat) (S S' : Sto) : Prop := S.length ≤ S'.length ∧ ∀ (i : Nat) (c : C), i ≠ b → S[i]? = some c → S'[i]? = some c
theorem Sub.refl {S : Sto} : Sub S S := fun _ _ h => h
theorem Sub.trans {S S1 S2 : Sto} (a : Sub S S1) (b : Sub S1 S2) : Sub S S2 := fun i c h => b i c (a i c h)
theorem Sub.app {S T : Sto} : Sub S (S ++ T) := fun i c h => by rw [List.getElem?_append_left (List.getElem?_eq_some_iff.mp h).1]; exact h
theorem Sub.len {S S' : Sto} (a : Sub S S') : S.length ≤ S'.length := by
  cases e : S with
  | nil => exact Nat.zero_le _
  | cons c r =>
    have hl : S.length - 1 < S.length := by rw [e]; simp
    have := a (S.length - 1) _ (List.getElem?_eq_getElem hl)
    have h2 := (List.getElem?_eq_some_iff.mp this).1
    rw [← e]; omega
theorem Sub.new {S S' : Sto} {c : C} (a : Sub S S') : Sub S (S' ++ [c]) := a.trans Sub.app
theorem Sub.b {S S' : Sto} {b : Nat} (a : Sub S S') : SubB b S S' := ⟨a.len, fun i c _ h => a i c h⟩
theorem SubB.refl {S : Sto} {b : Nat} : SubB b S S := ⟨Nat.le_refl _, fun _ _ _ h => h⟩
theorem SubB.trans {S S1 S2 : Sto} {b : Nat} (x : SubB b S S1) (y : SubB b S1 S2) : SubB b S S2 := ⟨Nat.le_trans x.1 y.1, fun i c n h => y.2 i c n (x.2 i c n h)⟩
theorem SubB.set {S : Sto} {b : Nat} {c : C} : SubB b S (S.set b c) := ⟨by simp, fun i c' n h => by rw [List.getElem?_set_ne (Ne.symm n)]; exact h⟩
theorem at_new {S : Sto} {c : C} : (S ++ [c])[S.length]? = some c := by simp
theorem at_set {S : Sto} {b : Nat} {c c' : C} (h : S[b]? = some c) : (S.set b c')[b]? = some c' := by rw [List.getElem?_set_self (List.getElem?_eq_some_iff.mp h).1]

/-! ### the combinators, by what they give -/
section
variable {Q : D → Sto → Prop} {Qs : List D → Sto → Prop} {Qb : Bool → Sto → Prop} {Qo : Out → Sto → Prop} {Qe : Env → Sto → Prop} {Qp : Option Int → Sto → Prop} {Qi : List D × Grd → Sto → Prop} {ρ : Env} {S : Sto} {m ma mb mc : ME} {ms mk : MA} {t u : MT} {a b : MS} {g : F2} {g' : F2} {f : MF}
theorem W_var {i : Nat} : W (mVar i ρ S) Q = match ρ[i]? with | some (some d) => Q d S | _ => False := by
  unfold mVar
  generalize ρ[i]? = o
  rcases o with _ | _ | d
  · exact W_bad
  · exact W_bad
  · exact W_ok
theorem W_C {d : D} : W (mC d ρ S) Q = Q d S := W_ok
theorem W_bin : W (mBin g ma mb ρ S) Q = W (ma ρ S) fun x S1 => W (mb ρ S1) fun y S2 => W (g x y S2) Q := by unfold mBin; simp only [W_bind]
theorem W_un {g : F1} : W (mUn g ma ρ S) Q = W (ma ρ S) fun x S1 => W (g x S1) Q := by unfold mUn; simp only [W_bind]
theorem W_chain : W (mChain g g' ma mb mc ρ S) Q = W (ma ρ S) fun x S1 => W (mb ρ S1) fun y S2 => W (g x y S2) fun t S3 => match t with
  | .bl true => W (mc ρ S3) fun z S4 => W (g' y z S4) fun w S5 => match w with
    | .bl b => Q (.bl b) S5
    | _ => False
  | .bl false => Q (.bl false) S3
  | _ => False := by
  unfold mChain
  simp only [W_bind]
  congr; funext x S1; congr; funext y S2; congr; funext t S3
  cases t with
  | bl b =>
    cases b
    · simp only [W_ok]
    · simp only [W_bind]
      congr; funext z S4; congr; funext w S5
      cases w <;> simp only [W_ok, W_bad]
  | _ => simp only [W_bad]
theorem W_tru : W (mTru m ρ S) Qb = W (m ρ S) fun d S1 => match truD d S1 with | some b => Qb b S1 | none => False := by
  unfold mTru; simp only [W_bind]; congr; funext d S1
  generalize truD d S1 = o
  cases o <;> simp only [W_ok, W_bad]
theorem W_tst : W (mTst m ρ S) Qb = W (m ρ S) fun d S1 => match d with | .bl b => Qb b S1 | _ => False := by
  unfold mTst; simp only [W_bind]; congr; funext d S1
  cases d <;> simp only [W_ok, W_bad]
theorem W_notT : W (mNotT t ρ S) Qb = W (t ρ S) fun b S1 => Qb (!b) S1 := by unfold mNotT; simp only [W_bind, W_ok]
theorem W_andT : W (mAndT t u ρ S) Qb = W (t ρ S) fun b S1 => if b = true then W (u ρ S1) Qb else Qb false S1 := by unfold mAndT; simp only [W_bind, W_ite, W_ok]
theorem W_orT : W (mOrT t u ρ S) Qb = W (t ρ S) fun b S1 => if b = true then Qb true S1 else W (u ρ S1) Qb := by unfold mOrT; simp only [W_bind, W_ite, W_ok]
theorem W_andV : W (mAndV ma mb ρ S) Q = W (ma ρ S) fun d S1 => match d with | .bl true => W (mb ρ S1) Q | .bl false => Q (.bl false) S1 | _ => False := by
  unfold mAndV; simp only [W_bind]; congr; funext d S1
  cases d with
  | bl b => cases b <;> simp only [W_ok]
  | _ => simp only [W_bad]
theorem W_orV : W (mOrV ma mb ρ S) Q = W (ma ρ S) fun d S1 => match d with | .bl true => Q (.bl true) S1 | .bl false => W (mb ρ S1) Q | _ => False := by
  unfold mOrV; simp only [W_bind]; congr; funext d S1
  cases d with
  | bl b => cases b <;> simp only [W_ok]
  | _ => simp only [W_bad]
theorem W_notV : W (mNotV ma ρ S) Q = W (ma ρ S) fun d S1 => match d with | .bl b => Q (.bl (!b)) S1 | _ => False := by
  unfold mNotV; simp only [W_bind]; congr; funext d S1
  cases d <;> simp only [W_ok, W_bad]
theorem W_if : W (mIf t ma mb ρ S) Q = W (t ρ S) fun b S1 => if b = true then W (ma ρ S1) Q else W (mb ρ S1) Q := by unfold mIf; simp only [W_bind, W_ite]
theorem W_nil : W (mNil ρ S) Qs = Qs [] S := W_ok
theorem W_cons : W (mCons m ms ρ S) Qs = W (m ρ S) fun d S1 => W (ms ρ S1) fun ds S2 => Qs (d :: ds) S2 := by unfold mCons; simp only [W_bind, W_ok]
theorem W_tup : W (mTup ms ρ S) Q = W (ms ρ S) fun ds S1 => ds.length ≤ lim ∧ Q (.tup ds) S1 := by
  unfold mTup; simp only [W_bind, W_ite, W_ok, W_bad]; congr; funext ds S1; by_cases h : ds.length ≤ lim <;> simp [h]
theorem W_lst : W (mLst ms ρ S) Q = W (ms ρ S) fun ds S1 => ds.length ≤ lim ∧ Q (.loc S1.length) (S1 ++ [.lst ds]) := by
  unfold mLst; simp only [W_bind, W_ite, W_ok, W_bad]; congr; funext ds S1; by_cases h : ds.length ≤ lim <;> simp [h]
theorem W_call : W (mCall f ms ρ S) Q = W (ms ρ S) fun ds S1 => W (f ds S1) Q := by unfold mCall; simp only [W_bind]
theorem W_callK {np nk : Nat} {ix : List Nat} : W (mCallK f np nk ix ms mk ρ S) Q = W (ms ρ S) fun ds S1 => W (mk ρ S1) fun es S2 => ds.length = np ∧ es.length = nk ∧ W (f (En.pick ix (ds ++ es)) S2) Q := by
  unfold mCallK; simp only [W_bind, W_ite, W_bad]; congr; funext ds S1; congr; funext es S2
  by_cases h : ds.length = np <;> by_cases h' : es.length = nk <;> simp [h, h']
theorem W_noPart : W (mNoPart ρ S) Qp = Qp none S := W_ok
theorem W_part : W (mPart m ρ S) Qp = W (m ρ S) fun d S1 => match d with | .int i => Qp (some i) S1 | _ => False := by
  unfold mPart; simp only [W_bind]; congr; funext d S1
  cases d <;> simp only [W_ok, W_bad]
theorem W_sl {l h : MO} : W (mSl m l h ρ S) Q = W (m ρ S) fun d S1 => W (l ρ S1) fun lo S2 => W (h ρ S2) fun hi S3 => W (slD d lo hi S3) Q := by unfold mSl; simp only [W_bind]
theorem W_meth {T : String} {gm : D → MF} : W (mMeth T gm m ms ρ S) Q = W (m ρ S) fun d S1 => tyM T d S1 = true ∧ W (ms ρ S1) fun ds S2 => W (gm d ds S2) Q := by
  unfold mMeth; simp only [W_bind, W_ite, W_bad]; congr; funext d S1; by_cases h : tyM T d S1 = true <;> simp [h]
/-- statements -/
theorem W_asg {gm : MG} : W (sAsg m gm ρ S) Qo = W (m ρ S) fun d S1 => W (gm d ρ S1) fun ρ1 S2 => Qo (.next ρ1) S2 := by unfold sAsg; simp only [W_bind, W_ok]
theorem W_name {i : Nat} {d : D} : W (gmName i d ρ S) Qe = Qe (ρ.set i (some d)) S := W_ok
theorem W_gnil {ds : List D} : W (gmNil ds ρ S) Qe = (ds = [] ∧ Qe ρ S) := by
  unfold gmNil
  cases ds <;> simp [W_ok, W_bad]
theorem W_gcons {ds : List D} {gm : MG} {gs : MGs} : W (gmCons gm gs ds ρ S) Qe = match ds with | d :: r => W (gm d ρ S) fun ρ1 S1 => W (gs r ρ1 S1) Qe | [] => False := by
  unfold gmCons; split
  · simp only [W_bind]
  · rw [W_bad]
theorem W_gseq {n : Nat} {d : D} {gs : MGs} : W (gmSeq n gs d ρ S) Qe = match itsD S d with | some ds => ds.length = n ∧ W (gs ds ρ S) Qe | none => False := by
  unfold gmSeq
  cases itsD S d with
  | none => simp only [W_bad]
  | some ds =>
    simp only [W_ite, W_bad]
    by_cases h : ds.length = n <;> simp [h]
theorem W_gsub {mo mi : ME} {d : D} : W (gmSub mo mi d ρ S) Qe = W (mo ρ S) fun o S1 => W (mi ρ S1) fun i S2 => W (setD o i d S2) fun _ S3 => Qe ρ S3 := by unfold gmSub; simp only [W_bind, W_ok]
theorem W_expr : W (sExpr m ρ S) Qo = W (m ρ S) fun _ S1 => Qo (.next ρ) S1 := by unfold sExpr; simp only [W_bind, W_ok]
theorem W_ret : W (sRet m ρ S) Qo = W (m ρ S) fun d S1 => Qo (.ret d) S1 := by unfold sRet; simp only [W_bind, W_ok]
theorem W_retN : W (sRetN ρ S) Qo = Qo (.ret .non) S := W_ok
theorem W_sif : W (sIf t a b ρ S) Qo = W (t ρ S) fun c S1 => if c = true then W (a ρ S1) Qo else W (b ρ S1) Qo := by unfold sIf; simp only [W_bind, W_ite]
theorem W_next : W (sNext ρ S) Qo = Qo (.next ρ) S := W_ok
theorem W_brk : W (sBrk ρ S) Qo = Qo (.brk ρ) S := W_ok
theorem W_cont : W (sCont ρ S) Qo = Qo (.cont ρ) S := W_ok
theorem W_sbad : W (sBad ρ S) Qo = False := W_bad
theorem W_seq : W (sSeq a b ρ S) Qo = W (a ρ S) fun o S1 => match o with | .next ρ1 => W (b ρ1 S1) Qo | o => Qo o S1 := by
  unfold sSeq; simp only [W_bind]; congr; funext o S1; cases o <;> simp only [W_ok]
theorem W_par2 {i j : Nat} : W (sPar2 i j ms ρ S) Qo = W (ms ρ S) fun ds S1 => match ds with | [x, y] => Qo (.next ((ρ.set i (some x)).set j (some y))) S1 | _ => False := by
  unfold sPar2; simp only [W_bind]; congr; funext ds S1
  rcases ds with _ | ⟨x, _ | ⟨y, _ | ⟨z, r⟩⟩⟩ <;> simp only [W_ok, W_bad]
theorem W_par3 {i j l : Nat} : W (sPar3 i j l ms ρ S) Qo = W (ms ρ S) fun ds S1 => match ds with | [x, y, z] => Qo (.next (((ρ.set i (some x)).set j (some y)).set l (some z))) S1 | _ => False := by
  unfold sPar3; simp only [W_bind]; congr; funext ds S1
  rcases ds with _ | ⟨x, _ | ⟨y, _ | ⟨z, _ | ⟨w, r⟩⟩⟩⟩ <;> simp only [W_ok, W_bad]
theorem W_for {it : MI} {gm : MG} : W (sFor it gm a ρ S) Qo = W (it ρ S) fun z S1 => W (forL z.2 gm a z.1 ρ S1) Qo := by unfold sFor; simp only [W_bind]
theorem W_lc {it : MI} {gm : MG} {vs : List Nat} : W (mLc it gm t m vs ρ S) Q = W (it ρ S) fun z S1 => W (lcL z.2 gm t m z.1 (wipeE ρ vs) S1) fun xs S2 => xs.length ≤ lim ∧ Q (.loc S2.length) (S2 ++ [.lst xs]) := by
  unfold mLc; simp only [W_bind, W_ite, W_ok, W_bad]; congr; funext z S1; congr; funext xs S2; by_cases h : xs.length ≤ lim <;> simp [h]
theorem W_yes : W (mYes ρ S) Qb = Qb true S := W_ok
theorem W_iseq : W (iSeq m ρ S) Qi = W (m ρ S) fun d S1 => match itsD S1 d with | some ds => Qi (ds, grdOf d ds) S1 | none => False := by
  unfold iSeq; simp only [W_bind]; congr; funext d S1
  generalize itsD S1 d = o
  cases o <;> simp only [W_ok, W_bad]
theorem W_ienum : W (iEnum' m ρ S) Qi = W (m ρ S) fun d S1 => match itsD S1 d with | some ds => Qi (enumFrom 0 ds, grdOf d ds) S1 | none => False := by
  unfold iEnum'; simp only [W_bind]; congr; funext d S1
  generalize itsD S1 d = o
  cases o <;> simp only [W_ok, W_bad]
theorem W_rng1 : W (iRange1 ms ρ S) Qi = W (ms ρ S) fun ds S1 => match ds with | [.int j] => (-1000000000 ≤ j ∧ j ≤ 1000000000) ∧ Qi (rngD 0 j.toNat, none) S1 | _ => False := by
  unfold iRange1; simp only [W_bind]; congr; funext ds S1
  rcases ds with _ | ⟨x, _ | ⟨y, r⟩⟩
  · simp only [W_bad]
  · cases x with
    | int j => simp only [W_ite, W_ok, W_bad]; by_cases h : -1000000000 ≤ j ∧ j ≤ 1000000000 <;> simp [h]
    | _ => simp only [W_bad]
  · cases x <;> simp only [W_bad]
theorem W_rng2 : W (iRange2 ms ρ S) Qi = W (ms ρ S) fun ds S1 => match ds with | [.int i, .int j] => (-1000000000 ≤ i ∧ i ≤ 1000000000 ∧ -1000000000 ≤ j ∧ j ≤ 1000000000) ∧ Qi (rngD i (j - i).toNat, none) S1 | _ => False := by
  unfold iRange2; simp only [W_bind]; congr; funext ds S1
  rcases ds with _ | ⟨x, _ | ⟨y, _ | ⟨z, r⟩⟩⟩
  · simp only [W_bad]
  · cases x <;> simp only [W_bad]
  · cases x with
    | int i =>
      cases y with
      | int j => simp only [W_ite, W_ok, W_bad]; by_cases h : -1000000000 ≤ i ∧ i ≤ 1000000000 ∧ -1000000000 ≤ j ∧ j ≤ 1000000000 <;> simp [h]
      | _ => simp only [W_bad]
    | _ => simp only [W_bad]
  · cases x <;> (try cases y) <;> simp only [W_bad]
theorem W_while {n : Nat} : W (sWhile n t a ρ S) Qo = W (whileL t a n ρ S) Qo := rfl
theorem W_whileS {n : Nat} : W (whileL t a (n + 1) ρ S) Qo = W (t ρ S) fun c S1 => if c = true then W (a ρ S1) (fun o S2 => match o with
      | .next ρ2 => W (whileL t a n ρ2 S2) Qo
      | .cont ρ2 => W (whileL t a n ρ2 S2) Qo
      | .brk ρ2 => Qo (.next ρ2) S2
      | .ret d => Qo (.ret d) S2) else Qo (.next ρ) S1 := by
  conv => lhs; unfold whileL
  simp only [W_bind, W_ite, W_ok]
  congr; funext c S1; congr; funext o S2; cases o <;> simp only [W_ok]
theorem W_fun {N n : Nat} {ds : List D} : W (mFun N n a ds S) Q = (ds.length = n ∧ W (a (startE N ds) S) fun o S1 => match o with | .ret d => Q d S1 | .next _ => Q .non S1 | _ => False) := by
  unfold mFun
  rw [W_ite, W_bad]
  by_cases h : ds.length = n
  · simp only [h, if_true, true_and]
    cases e : a (startE N ds) S with
    | bad => rw [W_bad, W_bad]
    | ok o S1 => rw [W_ok]; cases o <;> simp only [W_ok, W_bad]
  · simp [h]
/-- values -/
theorem W_subD {i j : Int} : W (subD (.int i) (.int j) S) Q = Q (.int (i - j)) S := W_ok
theorem W_addI {i j : Int} : W (addD (.int i) (.int j) S) Q = Q (.int (i + j)) S := W_ok
theorem W_addS {x y : Str} : W (addD (.str x) (.str y) S) Q = (x.length + y.length ≤ lim ∧ Q (.str (x ++ y)) S) := by unfold addD; simp only [W_ite, W_ok, W_bad]; by_cases h : x.length + y.length ≤ lim <;> simp [h]
theorem W_addT {x y : List D} : W (addD (.tup x) (.tup y) S) Q = (x.length + y.length ≤ lim ∧ Q (.tup (x ++ y)) S) := by unfold addD; simp only [W_ite, W_ok, W_bad]; by_cases h : x.length + y.length ≤ lim <;> simp [h]
theorem W_mulI {i j : Int} : W (mulD (.int i) (.int j) S) Q = (i.natAbs.log2 + j.natAbs.log2 < 1000000 ∧ Q (.int (i * j)) S) := by unfold mulD; simp only [W_ite, W_ok, W_bad]; by_cases h : i.natAbs.log2 + j.natAbs.log2 < 1000000 <;> simp [h]
theorem W_fdiv {i j : Int} : W (fdivD (.int i) (.int j) S) Q = ((0 < j ∧ j.natAbs.log2 < 9000) ∧ Q (.int (i / j)) S) := by unfold fdivD; simp only [W_ite, W_ok, W_bad]; by_cases h : 0 < j ∧ j.natAbs.log2 < 9000 <;> simp [h]
theorem W_mod {i j : Int} : W (modD (.int i) (.int j) S) Q = (0 < j ∧ Q (.int (i % j)) S) := by unfold modD; simp only [W_ite, W_ok, W_bad]; by_cases h : 0 < j <;> simp [h]
theorem W_pow {i j : Int} : W (powD (.int i) (.int j) S) Q = ((0 ≤ j ∧ j ≤ 1000000 ∧ i.natAbs < 2 ^ 64) ∧ Q (.int (i ^ j.toNat)) S) := by unfold powD; simp only [W_ite, W_ok, W_bad]; by_cases h : 0 ≤ j ∧ j ≤ 1000000 ∧ i.natAbs < 2 ^ 64 <;> simp [h]
theorem W_neg {i : Int} : W (negD (.int i) S) Q = Q (.int (-i)) S := W_ok
theorem W_ord {r : Int → Int → Bool} {i j : Int} : W (ordD r (.int i) (.int j) S) Q = Q (.bl (r i j)) S := W_ok
theorem W_isi {T : String} {d : D} : W (isiD T d S) Q = match tyN d S with | some t => Q (.bl (isT t T)) S | none => False := by
  unfold isiD
  generalize tyN d S = o
  cases o <;> simp only [W_ok, W_bad]
theorem W_is {a b : D} : W (isD a b S) Q = match b with | .non => Q (.bl (isNon a)) S | .bl c => (match a with | .bl d => Q (.bl (decide (d = c))) S | _ => False) | _ => False := by
  unfold isD
  cases b with
  | non => simp only [W_ok]
  | bl c => cases a <;> simp only [W_ok, W_bad]
  | _ => simp only [W_bad]
theorem W_isnt {a b : D} : W (isNotD a b S) Q = match b with | .non => Q (.bl (!isNon a)) S | .bl c => (match a with | .bl d => Q (.bl (!decide (d = c))) S | _ => False) | _ => False := by
  unfold isNotD
  cases b with
  | non => simp only [W_ok]
  | bl c => cases a <;> simp only [W_ok, W_bad]
  | _ => simp only [W_bad]
theorem W_ix {a : D} {i : Int} {ds : List D} (h : itsD S a = some ds) : W (ixD a (.int i) S) Q = match atI ds i with | some d => Q d S | none => False := by
  unfold ixD
  cases a with
  | str x => cases h
  | _ =>
    simp only [h]
    split <;> rename_i e <;> simp only [e, W_ok, W_bad]
end
end En
namespace En
open PySem L2
/-! ### a function that only adds to the store -/
def Pu (f : MF) (ds : List D) (v : D) : Prop := ∀ S, W (f ds S) fun d S' => d = v ∧ Sub S S'
theorem Pu.use {f : MF} {ds : List D} {v : D} {S : Sto} {Q : D → Sto → Prop} (h : Pu f ds v) (k : ∀ S', Sub S S' → Q v S') : W (f ds S) Q := (h S).imp fun a S' ⟨e, s⟩ => e ▸ k S' s
theorem grd_sub {gd : Grd} {S S' : Sto} (h : grdOk gd S = true) (s : Sub S S') : grdOk gd S' = true := by
  match gd with
  | none => rfl
  | some (i, ds) =>
    have e := s _ _ (grd_lst h)
    unfold grdOk
    simp only [e, beqL_refl]
theorem grd_of {S : Sto} {d : D} {ds : List D} (h : itsD S d = some ds) : grdOk (grdOf d ds) S = true := by
  cases d with
  | loc i =>
    unfold grdOf grdOk
    unfold itsD at h
    simp only at h ⊢
    cases e : S[i]? with
    | none => rw [e] at h; cases h
    | some c =>
      cases c with
      | lst es => rw [e] at h; cases h; exact beqL_refl _
      | dct _ => rw [e] at h; cases h
  | _ => rfl
theorem its_sub {S S' : Sto} {d : D} {ds : List D} (h : itsD S d = some ds) (s : Sub S S') : itsD S' d = some ds := by
  cases d with
  | loc i =>
    unfold itsD at h ⊢
    simp only at h ⊢
    split at h
    · rename_i es e; cases h; rw [s _ _ e]
    · cases h
  | _ => exact h
theorem its_at {S : Sto} {i : Nat} {ds : List D} (h : S[i]? = some (.lst ds)) : itsD S (.loc i) = some ds := by unfold itsD; simp only [h]
theorem its_new {S : Sto} {ds : List D} : itsD (S ++ [.lst ds]) (.loc S.length) = some ds := its_at at_new
theorem lstD_at {S : Sto} {i : Nat} {ds : List D} (h : S[i]? = some (.lst ds)) : lstD S (.loc i) = some ds := by unfold lstD; simp only [h]
theorem lst_new {S : Sto} {ds : List D} : lstD (S ++ [.lst ds]) (.loc S.length) = some ds := lstD_at at_new
theorem its_tup {S : Sto} {ds : List D} : itsD S (.tup ds) = some ds := rfl
/-- for: what stands at the head of each turn -/
theorem W_forI {α : Type} {c : α → D} {gd : Grd} {g : MG} {a : MS} {Qo : Out → Sto → Prop} (I : List α → Env → Sto → Prop)
    (step : ∀ x r ρ S, I (x :: r) ρ S → grdOk gd S = true ∧ W (g (c x) ρ S) fun ρ1 S1 => W (a ρ1 S1) fun o S2 => match o with
      | .next ρ2 => I r ρ2 S2
      | .cont ρ2 => I r ρ2 S2
      | .brk ρ2 => Qo (.next ρ2) S2
      | .ret d => Qo (.ret d) S2)
    (fin : ∀ ρ S, I [] ρ S → grdOk gd S = true ∧ Qo (.next ρ) S) : ∀ (xs : List α) (ρ : Env) (S : Sto), I xs ρ S → W (forL gd g a (xs.map c) ρ S) Qo
  | [], ρ, S, h => by
    obtain ⟨q, k⟩ := fin ρ S h
    rw [List.map_nil]; unfold forL
    rw [if_pos q, W_ok]; exact k
  | x :: r, ρ, S, h => by
    obtain ⟨q, k⟩ := step x r ρ S h
    rw [List.map_cons]; unfold forL
    rw [if_pos q]
    rw [W_bind]
    refine k.imp fun ρ1 S1 k => ?_
    rw [W_bind]
    refine k.imp fun o S2 k => ?_
    cases o with
    | next ρ2 => exact W_forI I step fin r ρ2 S2 k
    | cont ρ2 => exact W_forI I step fin r ρ2 S2 k
    | brk ρ2 => simp only [W_ok]; exact k
    | ret d => simp only [W_ok]; exact k
/-- a comprehension: what stands at the head of each turn -/
theorem W_lcI {α : Type} {c : α → D} {gd : Grd} {g : MG} {t : MT} {m : ME} {ρ : Env} (I : List D → List α → Sto → Prop)
    (step : ∀ acc x r S, I acc (x :: r) S → grdOk gd S = true ∧ W (g (c x) ρ S) fun ρ1 S1 => W (t ρ1 S1) fun b S2 => if b = true then W (m ρ1 S2) fun y S3 => I (acc ++ [y]) r S3 else I acc r S2) :
    ∀ (xs : List α) (acc : List D) (S : Sto) {Qs : List D → Sto → Prop}, I acc xs S → (∀ ys S, I (acc ++ ys) [] S → grdOk gd S = true ∧ Qs ys S) → W (lcL gd g t m (xs.map c) ρ S) Qs
  | [], acc, S, Qs, h, fin => by
    obtain ⟨q, k⟩ := fin [] S (by rw [List.append_nil]; exact h)
    rw [List.map_nil]; unfold lcL
    rw [if_pos q, W_ok]; exact k
  | x :: r, acc, S, Qs, h, fin => by
    obtain ⟨q, k⟩ := step acc x r S h
    rw [List.map_cons]; unfold lcL
    rw [if_pos q]
    rw [W_bind]
    refine k.imp fun ρ1 S1 k => ?_
    rw [W_bind]
    refine k.imp fun b S2 k => ?_
    cases b with
    | false =>
      simp only [Bool.false_eq_true, if_false] at k ⊢
      exact W_lcI I step r acc S2 k fin
    | true =>
      simp only [if_true] at k ⊢
      rw [W_bind]
      refine k.imp fun y S3 k => ?_
      rw [W_bind]
      exact W_lcI I step r (acc ++ [y]) S3 k fun ys S4 k => by
        obtain ⟨q, k⟩ := fin (y :: ys) S4 (by rw [List.append_assoc] at k; exact k)
        exact ⟨q, by rw [W_ok]; exact k⟩
/-- one that only adds to the store -/
theorem W_lcP {α : Type} {c : α → D} {gd : Grd} {g : MG} {t : MT} {m : ME} {ρ : Env} {S : Sto} {xs : List α} {p : α → Bool} {v : α → D} {Qs : List D → Sto → Prop} (h0 : grdOk gd S = true)
    (step : ∀ x ∈ xs, ∀ S1, Sub S S1 → W (g (c x) ρ S1) fun ρ1 S2 => W (t ρ1 S2) fun b S3 => b = p x ∧ if p x = true then W (m ρ1 S3) fun y S4 => y = v x ∧ Sub S1 S4 else Sub S1 S3)
    (k : ∀ S', Sub S S' → Qs ((xs.filter p).map v) S') : W (lcL gd g t m (xs.map c) ρ S) Qs := by
  refine W_lcI (c := c) (fun acc r S1 => Sub S S1 ∧ (∀ x ∈ r, x ∈ xs) ∧ acc ++ (r.filter p).map v = (xs.filter p).map v) ?_ xs [] S ⟨Sub.refl, fun _ h => h, rfl⟩ ?_
  · intro acc x r S1 ⟨s, hm, e⟩
    refine ⟨grd_sub h0 s, (step x (hm x (List.mem_cons_self ..)) S1 s).imp fun ρ1 S2 k => k.imp fun b S3 ⟨eb, k⟩ => ?_⟩
    subst eb
    have hr : ∀ y ∈ r, y ∈ xs := fun y h => hm y (List.mem_cons_of_mem _ h)
    cases hp : p x with
    | true =>
      rw [if_pos rfl]
      rw [hp, if_pos rfl] at k
      refine k.imp fun y S4 ⟨ey, s4⟩ => ⟨s.trans s4, hr, ?_⟩
      rw [List.filter_cons_of_pos hp] at e
      subst ey
      simpa using e
    | false =>
      rw [if_neg Bool.false_ne_true]
      rw [hp, if_neg Bool.false_ne_true] at k
      refine ⟨s.trans k, hr, ?_⟩
      rw [List.filter_cons_of_neg (by simp [hp])] at e
      exact e
  · intro ys S1 ⟨s, _, e⟩
    simp only [List.nil_append, List.filter_nil, List.map_nil, List.append_nil] at e
    exact ⟨grd_sub h0 s, e ▸ k S1 s⟩
theorem W_lcM {α : Type} {c : α → D} {gd : Grd} {g : MG} {m : ME} {ρ : Env} {S : Sto} {xs : List α} {v : α → D} {Qs : List D → Sto → Prop} (h0 : grdOk gd S = true)
    (step : ∀ x ∈ xs, ∀ S1, Sub S S1 → W (g (c x) ρ S1) fun ρ1 S2 => W (m ρ1 S2) fun y S4 => y = v x ∧ Sub S1 S4)
    (k : ∀ S', Sub S S' → Qs (xs.map v) S') : W (lcL gd g mYes m (xs.map c) ρ S) Qs :=
  W_lcP (p := fun _ => true) (v := v) h0 (fun x hx S1 s => (step x hx S1 s).imp fun ρ1 S2 k => by rw [W_yes, if_pos rfl]; exact ⟨rfl, k⟩) fun S' s => by
    have := k S' s
    rwa [List.filter_eq_self.mpr (fun _ _ => rfl)]
theorem enumFrom_map {α : Type} {c : α → D} : ∀ (xs : List α) (n : Nat), enumFrom n (xs.map c) = (xs.zipIdx n).map fun z => .tup [.int (z.2 : Int), c z.1]
  | [], _ => rfl
  | x :: xs, n => by rw [List.map_cons, enumFrom, enumFrom_map xs (n + 1), List.zipIdx_cons, List.map_cons]
theorem rng0 {n : Nat} : rngD 0 n = (List.range n).map fun (i : Nat) => D.int (i : Int) := by unfold rngD; simp only [Int.zero_add]
theorem atI_nat {α : Type} {xs : List α} {i : Nat} : atI xs (i : Int) = xs[i]? := by
  unfold atI ixN
  rw [if_pos (by omega)]
  by_cases h : i < xs.length
  · rw [if_pos (by omega)]; simp
  · rw [if_neg (by omega), List.getElem?_eq_none (by omega)]; rfl
theorem atI_map {α β : Type} {f : α → β} {xs : List α} {i : Int} : atI (xs.map f) i = (atI xs i).map f := by
  unfold atI; rw [List.length_map]; cases ixN xs.length i <;> simp
theorem bls_map (xs : List Bool) : bls? (xs.map D.bl) = some xs := by
  induction xs with
  | nil => rfl
  | cons x r ih => rw [List.map_cons, bls?, ih]; rfl
theorem ints_map (xs : List Int) : ints? (xs.map D.int) = some xs := by
  induction xs with
  | nil => rfl
  | cons x r ih => rw [List.map_cons, ints?, ih]; rfl
section
variable {Q : D → Sto → Prop} {S : Sto}
theorem W_len {d : D} {ds : List D} (h : itsD S d = some ds) : W (lenD [d] S) Q = Q (.int ds.length) S := by
  unfold lenD
  cases d with
  | loc i =>
    unfold itsD at h
    simp only at h ⊢
    split at h
    · rename_i es e; cases h; rw [e, W_ok]
    · cases h
  | tup es => cases h; rw [W_ok]
  | rol es => cases h; rw [W_ok]
  | _ => cases h
theorem W_lenT {ds : List D} : W (lenD [.tup ds] S) Q = Q (.int ds.length) S := W_len rfl
theorem W_lenN {ds : List D} : W (lenD [.loc S.length] (S ++ [.lst ds])) Q = Q (.int ds.length) (S ++ [.lst ds]) := W_len its_new
theorem W_intI {i : Int} : W (intD [.int i] S) Q = Q (.int i) S := W_ok
theorem W_intB {b : Bool} : W (intD [.bl b] S) Q = Q (.int (if b then 1 else 0)) S := W_ok
theorem W_abs {i : Int} : W (absD [.int i] S) Q = Q (.int (if i < 0 then -i else i)) S := W_ok
theorem W_max2 {i j : Int} : W (max2D [.int i, .int j] S) Q = Q (.int (if j > i then j else i)) S := W_ok
theorem W_min2 {i j : Int} : W (min2D [.int i, .int j] S) Q = Q (.int (if j < i then j else i)) S := W_ok
theorem W_divmod {i j : Int} : W (divmodD [.int i, .int j] S) Q = ((0 < j ∧ Builtin.divisionGoesByPylong i j = false) ∧ Q (.tup [.int (i / j), .int (i % j)]) S) := by
  unfold divmodD; simp only [W_ite, W_ok, W_bad]; by_cases h : 0 < j ∧ Builtin.divisionGoesByPylong i j = false <;> simp [h]
theorem W_tuple {d : D} {ds : List D} (h : itsD S d = some ds) : W (tupleD [d] S) Q = Q (.tup ds) S := by unfold tupleD; simp only [h, W_ok]
theorem W_tupleT {ds : List D} : W (tupleD [.tup ds] S) Q = Q (.tup ds) S := W_tuple rfl
theorem W_tupleN {ds : List D} : W (tupleD [.loc S.length] (S ++ [.lst ds])) Q = Q (.tup ds) (S ++ [.lst ds]) := W_tuple its_new
theorem W_list {d : D} {ds : List D} (h : itsD S d = some ds) : W (listD [d] S) Q = Q (.loc S.length) (S ++ [.lst ds]) := by unfold listD; simp only [h, W_ok]
theorem W_listT {ds : List D} : W (listD [.tup ds] S) Q = Q (.loc S.length) (S ++ [.lst ds]) := W_list rfl
theorem W_all {d : D} {bs : List Bool} (h : lstD S d = some (bs.map D.bl)) : W (allD [d] S) Q = Q (.bl (bs.all id)) S := by
  unfold allD; simp only [h, Option.bind_some, bls_map, W_ok]
theorem W_any {d : D} {bs : List Bool} (h : lstD S d = some (bs.map D.bl)) : W (anyD [d] S) Q = Q (.bl (bs.any id)) S := by
  unfold anyD; simp only [h, Option.bind_some, bls_map, W_ok]
theorem W_sum {d : D} {bs : List Int} (h : lstD S d = some (bs.map D.int)) : W (sumD [d] S) Q = Q (.int bs.sum) S := by
  unfold sumD; simp only [h, Option.bind_some, ints_map, W_ok]
theorem W_app {i : Nat} {es : List D} {d : D} (h : S[i]? = some (.lst es)) : W (appD (.loc i) [d] S) Q = (es.length < lim ∧ Q .non (S.set i (.lst (es ++ [d])))) := by
  unfold appD; simp only [h, W_ite, W_ok, W_bad]; by_cases h : es.length < lim <;> simp [h]
theorem W_set {i : Nat} {es : List D} {d : D} {k : Nat} {Qu : Unit → Sto → Prop} (h : S[i]? = some (.lst es)) (hk : k < es.length) : W (setD (.loc i) (.int (k : Int)) d S) Qu = Qu () (S.set i (.lst (es.set k d))) := by
  have e : ixN es.length (k : Int) = some k := by unfold ixN; rw [if_pos (by omega), if_pos (by omega)]; simp
  unfold setD; simp only [h, e, W_ok]
theorem W_ixN {d : D} {i : Nat} {ds : List D} {x : D} (h : itsD S d = some ds) (e : ds[i]? = some x) : W (ixD d (.int (i : Int)) S) Q = Q x S := by
  rw [W_ix h, atI_nat, e]
theorem W_ix0 {ds : List D} {x : D} : W (ixD (.tup (x :: ds)) (.int 0) S) Q = Q x S := W_ixN (i := 0) its_tup rfl
theorem W_ix1 {ds : List D} {x y : D} : W (ixD (.tup (x :: y :: ds)) (.int 1) S) Q = Q y S := W_ixN (i := 1) its_tup rfl
theorem W_ix2 {ds : List D} {x y z : D} : W (ixD (.tup (x :: y :: z :: ds)) (.int 2) S) Q = Q z S := W_ixN (i := 2) its_tup rfl
end
theorem pair2 {S : Sto} {c : C} {i : Nat} {ds : List D} (s : itsD S (.loc i) = some ds) : S[i]? = some (.lst ds) := by
  unfold itsD at s; simp only at s
  split at s
  · rename_i e; cases s; exact e
  · cases s
/-! ### equal things -/
def okD : Nat → D → Prop
  | 0, _ => False
  | n + 1, d => match d with
    | .tup ds => ds.length ≤ 1000000 ∧ ∀ x ∈ ds, okD n x
    | .int _ => True
    | .bl _ => True
    | .non => True
    | .str x => PyData.strOk x = true
    | _ => False
theorem ok_all {n : Nat} (ih : ∀ d : D, okD n d → ∃ p, (∀ f, pyD f d = some p) ∧ p.canLay0 = true ∧ p.depth ≤ n) : ∀ ds : List D, (∀ x ∈ ds, okD n x) → ∃ ps, (∀ f, pyAll f ds = some ps) ∧ PyData.canLayAll0 ps = true ∧ PyData.depthAll ps ≤ n
  | [], _ => ⟨[], fun _ => by simp only [pyAll], rfl, Nat.zero_le _⟩
  | d :: ds, h => by
    obtain ⟨p, e1, l1, k1⟩ := ih d (h d (List.mem_cons_self ..))
    obtain ⟨ps, e2, l2, k2⟩ := ok_all ih ds fun x hx => h x (List.mem_cons_of_mem _ hx)
    refine ⟨p :: ps, fun f => by simp only [pyAll, e1 f, e2 f], by simp only [PyData.canLayAll0, l1, l2, Bool.and_self], ?_⟩
    simp only [PyData.depthAll]
    omega
theorem ok_py : ∀ (n : Nat) (d : D), okD n d → ∃ p, (∀ f, pyD f d = some p) ∧ p.canLay0 = true ∧ p.depth ≤ n
  | 0, _, h => h.elim
  | n + 1, d, h => by
    cases d with
    | tup ds =>
      obtain ⟨ps, e, l, k⟩ := ok_all (ok_py n) ds h.2
      exact ⟨.tuple ps, fun f => by simp only [pyD, e f, Option.map_some], by simpa only [PyData.canLay0] using l, by simp only [PyData.depth]; omega⟩
    | int i => exact ⟨.int i, fun f => by simp only [pyD], rfl, Nat.zero_le _⟩
    | bl i => exact ⟨.bool i, fun f => by simp only [pyD], rfl, Nat.zero_le _⟩
    | non => exact ⟨.none, fun f => by simp only [pyD], rfl, Nat.zero_le _⟩
    | str x => exact ⟨.str x, fun f => by simp only [pyD], by simpa only [PyData.canLay0, okD] using h, Nat.zero_le _⟩
    | rol _ => exact h.elim
    | loc _ => exact h.elim
section
variable {Q : D → Sto → Prop} {S : Sto}
theorem W_eqP {a b : D} {p q : PyData} (ha : pyS S a = some p) (hb : pyS S b = some q) (la : SeqAt.shaped p = true) (lb : SeqAt.shaped q = true) : W (eqD a b S) Q = Q (.bl (PyData.eqv p q)) S := by
  unfold eqD; simp only [ha, hb, la, lb, Bool.and_self, if_true, W_ok]
theorem W_neP {a b : D} {p q : PyData} (ha : pyS S a = some p) (hb : pyS S b = some q) (la : SeqAt.shaped p = true) (lb : SeqAt.shaped q = true) : W (neD a b S) Q = Q (.bl (!PyData.eqv p q)) S := by
  unfold neD; simp only [ha, hb, la, lb, Bool.and_self, if_true, W_ok]
theorem ok_shaped {n : Nat} {p : PyData} (hn : n ≤ 60) (l : p.canLay0 = true) (k : p.depth ≤ n) : SeqAt.shaped p = true := by
  unfold SeqAt.shaped; simp only [l, Bool.true_and, decide_eq_true_eq]; omega
theorem W_eqSame {n : Nat} {a : D} (hn : n ≤ 60) (h : okD n a) : W (eqD a a S) Q = Q (.bl true) S := by
  obtain ⟨p, e, l, k⟩ := ok_py n a h
  rw [W_eqP (e _) (e _) (ok_shaped hn l k) (ok_shaped hn l k), SeqAt.eqv_refl p l]
theorem W_neSame {n : Nat} {a : D} (hn : n ≤ 60) (h : okD n a) : W (neD a a S) Q = Q (.bl false) S := by
  obtain ⟨p, e, l, k⟩ := ok_py n a h
  rw [W_neP (e _) (e _) (ok_shaped hn l k) (ok_shaped hn l k), SeqAt.eqv_refl p l]; rfl
theorem W_eqI {i j : Int} : W (eqD (.int i) (.int j) S) Q = Q (.bl (i == j)) S := by
  rw [W_eqP (p := .int i) (q := .int j) (by simp only [pyS, pyD]) (by simp only [pyS, pyD]) rfl rfl]; simp only [PyData.eqv]
theorem W_neI {i j : Int} : W (neD (.int i) (.int j) S) Q = Q (.bl (!(i == j))) S := by
  rw [W_neP (p := .int i) (q := .int j) (by simp only [pyS, pyD]) (by simp only [pyS, pyD]) rfl rfl]; simp only [PyData.eqv]
theorem W_eqB {i j : Bool} : W (eqD (.bl i) (.bl j) S) Q = Q (.bl (i == j)) S := by
  rw [W_eqP (p := .bool i) (q := .bool j) (by simp only [pyS, pyD]) (by simp only [pyS, pyD]) rfl rfl]; simp only [PyData.eqv]
theorem W_neB {i j : Bool} : W (neD (.bl i) (.bl j) S) Q = Q (.bl (!(i == j))) S := by
  rw [W_neP (p := .bool i) (q := .bool j) (by simp only [pyS, pyD]) (by simp only [pyS, pyD]) rfl rfl]; simp only [PyData.eqv]
end
theorem le_lim {n : Nat} (h : n ≤ 1000000) : n ≤ lim := Nat.le_trans h (by decide)
theorem ok_ints {n : Nat} {xs : List Int} (h : xs.length ≤ 1000000) : okD (n + 2) (.tup (xs.map D.int)) := by
  refine ⟨by simpa using h, fun x hx => ?_⟩
  obtain ⟨i, _, rfl⟩ := List.mem_map.mp hx
  trivial
theorem ok_up : ∀ {n : Nat} {d : D}, okD n d → okD (n + 1) d
  | 0, _, h => h.elim
  | n + 1, d, h => by
    cases d with
    | tup ds => exact ⟨h.1, fun x hx => ok_up (h.2 x hx)⟩
    | int i => trivial
    | bl i => trivial
    | non => trivial
    | str x => exact h
    | rol _ => exact h.elim
    | loc _ => exact h.elim
end En
namespace HT
open PySem PySem.Spec PyProof.Rows L2
section
variable {prog : Program} {w : World} {A : Around} {E : Value → Shared → Prop} {s : Shared}
theorem places_rev (n : Nat) : Builtin.Slice.slicePlaces ((n : Int) - 1) (-1) (-1) = n := by
  unfold Builtin.Slice.slicePlaces
  rw [if_neg (by decide)]
  by_cases h : (n : Int) - 1 > -1
  · rw [if_pos h, show (- (-1) : Int) = 1 from rfl, Int.ediv_one]; omega
  · rw [if_neg h]; omega
theorem sliceApplied_rev {sl : Addr} {vs : Value} {n : Nat} {Q : Int × Int × Nat → Shared → Prop} (hs : s.heap.IsSliceOf sl .none .none vs) (ps : IsPart vs (some (-1)))
    (h : Q ((n : Int) - 1, -1, n) s) : wpAny (model prog w) A (Builtin.Slice.sliceApplied (.ref sl) (pure (n : Int))) Q E s := by
  obtain ⟨os, hos, hcs, hds⟩ := id hs
  unfold Builtin.Slice.sliceApplied Builtin.Slice.sliceFields
  refine wpAny_bind (wpAny_bind (wpAny_field hos hds (x := .none) rfl (wpAny_bind (wpAny_field hos hds (x := .none) rfl (wpAny_bind (wpAny_field hos hds (x := vs) rfl (wpAny_pure ?_)))))))
  refine wpAny_bind (slicePart_ ps ?_)
  show wpAny _ _ (if ((-1 : Int) == 0) = true then _ else _) _ _ s
  rw [if_neg (by decide)]
  refine wpAny_bind (slicePart_none (wpAny_bind (slicePart_none (wpAny_bind (wpAny_pure ?_)))))
  show wpAny _ _ (pure ((n : Int) - 1, (-1 : Int), Builtin.Slice.slicePlaces ((n : Int) - 1) (-1) (-1))) _ _ s
  rw [places_rev]
  exact wpAny_pure h
theorem pick_rev (xs : Array Value) : ((List.range xs.size).filterMap fun (m : Nat) => xs[((xs.size : Int) - 1 + (m : Int) * (-1)).toNat]?).toArray = xs.toList.reverse.toArray := by
  congr 1
  have e : (List.range xs.size).filterMap (fun (m : Nat) => xs[((xs.size : Int) - 1 + (m : Int) * (-1)).toNat]?) = ((List.range xs.size).map fun k => xs.size - 1 - k).filterMap (fun i => xs[i]?) := by
    rw [List.filterMap_map]
    congr 1
    funext m
    show _ = xs[xs.size - 1 - m]?
    rw [show ((xs.size : Int) - 1 + (m : Int) * (-1)).toNat = xs.size - 1 - m from by omega]
  rw [e, PySem.W.krv_range, List.filterMap_reverse, PySem.W.krv_all]
theorem getItem_tuple_rev {t sl : Addr} {items : Array Value} {vs : Value} {Q : Value → Shared → Prop} (ht : IsTup s.heap t items) (hs : s.heap.IsSliceOf sl .none .none vs) (ps : IsPart vs (some (-1)))
    (h : Q (.ref s.heap.objs.size) { s with heap := s.heap.push { cls := .type "tuple", data := .seq items.toList.reverse.toArray } })
    (hsz : items.size ≤ sizeLine) : wpAny (model prog w) A (getItem (.ref t) (.ref sl)) Q E s := by
  have htake : sizeOk (.seq items.toList.reverse.toArray) := by
    show items.toList.reverse.toArray.size ≤ sizeLine
    rw [List.size_toArray, List.length_reverse, Array.length_toList]
    exact hsz
  obtain ⟨os, hos, hcs, hds⟩ := id hs
  have hTs : s.TypeIs (.ref sl) "slice" := ⟨os, hos, hcs⟩
  unfold getItem
  try with_reducible refine wpAny_holding ?_
  first | refine wpAny_bind (wpAny_pure ?_) | skip
  refine wpAny_bind (wpAny_sequenceKey ht.typeIs (by decide) ?_)
  refine wpAny_bind (wpAny_callSpecial?_slot (name := Str.ofString "__getitem__") ht.typeIs PyProof.Rows.slot_tuple_getitem
    (wpAny_call_entry PyProof.Rows.slot_tuple_getitem ht.typeIs entry_tuple_getitem ?_ (args_tuple_getitem _ _)))
  show wpAny _ _ (Builtin.Tuple.tupleItemsOf (.ref t) >>= _) _ _ s
  refine wpAny_bind (tupleItemsOf_ ht ?_)
  refine wpAny_bind (wpAny_typeOf hTs ?_)
  rw [if_pos (by decide)]
  refine wpAny_bind (sliceApplied_rev hs ps ?_)
  show wpAny _ _ (if (((items.size : Int) - 1) == 0 && (-1 : Int) == 1 && items.size == items.size) = true then _ else _) _ _ s
  rw [if_neg (by simp), pick_rev]
  first
    | exact wpAny_bind (m := Builtin.Tuple.tupleExact _) (wpAny_newObj_type (wpAny_pure ⟨_, rfl, wpAny_pure h⟩) htake)
    | exact wpAny_bind (m := Builtin.Tuple.tupleExact _) (wpAny_newObj_type (wpAny_bind (wpAny_pure (wpAny_pure ⟨_, rfl, wpAny_pure h⟩))) htake)
    | exact wpAny_bind (wpAny_bind (m := Builtin.Tuple.tupleExact _) (wpAny_newObj_type (wpAny_pure (wpAny_pure ⟨_, rfl, wpAny_pure h⟩)) htake))
    | exact wpAny_bind (wpAny_bind (m := Builtin.Tuple.tupleExact _) (wpAny_newObj_type (wpAny_pure ⟨_, rfl, wpAny_pure h⟩) htake))
end
end HT
namespace L2
open PySem PySem.Spec PyProof.Rows HT
def tRevT (K : PySem.W.Frag) (te : TE) : TE := fun σ H Q => te σ H fun x H1 => ∃ a xs, x = .ref a ∧ SqT K H1 a xs ∧ ∀ p, H1 p = none → Q (.ref p) (upd H1 p (.tup xs.reverse))
theorem pe_revT {X : Cx} {e : Expr} {te : TE} {k : Nat} {p1 p2 p3 pos : Pos} (he : PE X e te) : PE X (.Subscript e (.Slice none none (some (.UnaryOp .USub (.Constant (.int 1) k p1) p2)) p3) pos) (tRevT X.K te) := by
  refine ⟨fun pins s σ H Q I h => ?_⟩
  refine Subscript_ (thn (he.run pins s σ H _ I h) fun v s1 ⟨x, H1, I1, r1, q1⟩ => ?_)
  obtain ⟨a, xs, ex, hx, q⟩ := q1
  subst ex
  cases r1
  have hst : PO X (some (.UnaryOp .USub (.Constant (.int 1) k p1) p2)) (tPart (tUn (rU fun i => .int (-i)) (tC (.int 1)))) := po_some (pe_un un_neg pe_int)
  refine wpAny_Slice (thn (po_none.run pins s1 σ H1 (fun o H2 => o = none ∧ H2 = H1) I1 ⟨rfl, rfl⟩) fun vl s2 ⟨l, H2, I2, pl, el, e2⟩ => ?_)
  subst el e2
  refine thn (po_none.run pins s2 σ H2 (fun o H3 => o = none ∧ H3 = H2) I2 ⟨rfl, rfl⟩) fun vu s3 ⟨u, H3, I3, pu, eu, e3⟩ => ?_
  subst eu e3
  refine thn (hst.run pins s3 σ H3 (fun o H4 => o = some (-1) ∧ H4 = H3) I3 ⟨1, rfl, -1, rfl, rfl, rfl⟩) fun vs s4 ⟨o, H4, I4, ps, eo, e4⟩ => ?_
  subst eo e4
  cases pl
  cases pu
  have I5 : Inv X pins σ H4 { s4 with heap := s4.heap.push { cls := .type "slice", data := .fields #[.none, .none, vs] } } := I4.kept (t' := s4.toks) fun b ob q => Heap.get?_push_of_some _ q
  obtain ⟨its, r, ht, hz⟩ := I5.tuple hx
  have hlen := r.length
  show wpAny (model X.prog X.w) X.A (subscriptTail e (.Slice none none (some (.UnaryOp .USub (.Constant (.int 1) k p1) p2)) p3) (.ref a) (.ref s4.heap.objs.size)) (EP X pins σ Q) X.xe { s4 with heap := s4.heap.push { cls := .type "slice", data := .fields #[.none, .none, vs] } }
  refine tail_any (ops := [.ref a, .ref s4.heap.objs.size]) ht.typeIs (PyProof.Rows.slot_tuple_getitem.lookup) ?_ (by with_unfolding_all rfl)
  refine getItem_tuple_rev ht (Heap.IsSliceOf.new _ .none .none vs) ps ?_ (by rw [List.size_toArray]; omega)
  refine ⟨.ref _, _, I5.laid (t' := s4.toks) (o := .tup xs.reverse) (fun b ob q => Heap.get?_push_of_some _ q) (Nat.le_refl _) ?_, rfl, q _ (I5.hok.fresh (Nat.le_refl _))⟩
  exact ⟨by rw [List.length_reverse]; exact hz, _, r.reverse, IsTup.new _ _⟩
end L2
namespace En
open PySem L2
theorem Reps.rev {K : PySem.W.Frag} {μ : List Addr} {H : Hp} : ∀ {ds : List D} {vs : List V}, Reps K μ H ds vs → Reps K μ H ds.reverse vs.reverse
  | [], vs, h => by simp only [Reps] at h; subst h; exact Reps.nil
  | d :: ds, vs, h => by
    simp only [Reps] at h
    obtain ⟨v, r, rfl, q1, q2⟩ := h
    rw [List.reverse_cons, List.reverse_cons]
    exact (Reps.rev q2).append (Reps.cons q1 Reps.nil)
/-- t[::-1] of a tuple -/
def mRev (m : ME) : ME := fun ρ S => (m ρ S).bind fun d S1 => match d with
  | .tup ds => .ok (.tup ds.reverse) S1
  | _ => .bad
theorem pm_rev {X : Cx} {e : Expr} {m : ME} {k : Nat} {p1 p2 p3 pos : Pos} (he : PM X e m) : PM X (.Subscript e (.Slice none none (some (.UnaryOp .USub (.Constant (.int 1) k p1) p2)) p3) pos) (mRev m) := PE.imp (pe_revT he) fun σ H Q ⟨μ, S, ρ, d, S', r, en, h, k⟩ => by
  obtain ⟨x, S1, h1, h2⟩ := R.bind_ok h
  refine ⟨μ, S, ρ, x, S1, r, en, h1, fun μ1 v H1 a1 r1 q1 => ?_⟩
  cases x with
  | tup ds =>
    cases h2
    obtain ⟨p, vs, rfl, hs, q2⟩ := rep_tup q1
    exact ⟨p, vs, rfl, hs, fun p2 hp => newTup r1 q2.rev hp fun μ2 v H2 a2 => k μ2 v H2 (a1.trans a2)⟩
  | _ => cases h2
theorem W_rev {m : ME} {ρ : En.Env} {S : Sto} {Q : D → Sto → Prop} : W (mRev m ρ S) Q = W (m ρ S) fun d S1 => match d with | .tup ds => Q (.tup ds.reverse) S1 | _ => False := by
  unfold mRev; simp only [W_bind]; congr; funext d S1
  cases d <;> simp only [W_ok, W_bad]
end En
namespace L2
open PySem PySem.Spec PyProof.Rows PySem.W
theorem minD_mem (x : PyData) (xs : List PyData) : minD x xs ∈ x :: xs := by
  unfold minD
  induction xs generalizing x with
  | nil => exact List.mem_cons_self ..
  | cons y r ih =>
    rw [List.foldl_cons]
    have := ih (if dataLt y x = true then y else x)
    rcases List.mem_cons.mp this with h | h
    · rw [h]
      split
      · exact List.mem_cons_of_mem _ (List.mem_cons_self ..)
      · exact List.mem_cons_self ..
    · exact List.mem_cons_of_mem _ (List.mem_cons_of_mem _ h)
/-- min(l), l a list of data that can be compared -/
def rMinD (K : PySem.W.Frag) : List V → Hp → VK → Prop := fun vs H Q => ∃ (a : Addr) (ys : List V) (x : PyData) (xs : List PyData), vs = [.ref a] ∧ SqL K H a ys ∧ DpAll K H ys (x :: xs) ∧ AlikeAll (x :: xs) ∧ PyData.canLayAll0 (x :: xs) = true ∧ PyData.depthAll (x :: xs) ≤ 60 ∧
  ∀ (i : Nat) (y : V), ys[i]? = some y → (x :: xs)[i]? = some (minD x xs) → Q y H
theorem canLay_at : ∀ {xs : List PyData} {x : PyData}, PyData.canLayAll0 xs = true → x ∈ xs → x.canLay0 = true
  | y :: r, x, h, hx => by
    have h' : y.canLay0 = true ∧ PyData.canLayAll0 r = true := by simpa [PyData.canLayAll0] using h
    rcases List.mem_cons.mp hx with rfl | hx
    · exact h'.1
    · exact canLay_at h'.2 hx
theorem cr_minD {X : Cx} (hc : X.calm = true) (hu : X.A.units + 65 < cLine) : CallR X (.builtin "min") (rMinD X.K) := by
  intro pins s σ H vs us Q I r h
  obtain ⟨a, ys, x, xs, rfl, hs, hd, hal, hl, hdp, q⟩ := h
  obtain ⟨its, rv, hli, _⟩ := I.list hs
  rw [Vals.ref1 r]
  obtain ⟨as, hr⟩ := Dp.readsAll I (x :: xs) ys its hd rv
  refine min_list_data (I.ok.hd hc) hli.isList (show ReadsAll s.heap its.toArray.toList (x :: xs) as from hr) hal (by omega) fun i v h' tk bs hv hrd hk => ?_
  have hv' : its[i]? = some v := by simpa using hv
  obtain ⟨y, hy, ry⟩ : ∃ y, ys[i]? = some y ∧ RelV y v := by
    have hl := rv.length
    have hi := (List.getElem?_eq_some_iff.mp hv').1
    have hi' : i < ys.length := by omega
    obtain ⟨u, hu', ry⟩ := rv.get (List.getElem?_eq_getElem hi')
    rw [hv'] at hu'
    cases hu'
    exact ⟨_, List.getElem?_eq_getElem hi', ry⟩
  obtain ⟨cs, r1, hi, hm, _⟩ := readsAll_at hr i v hv'
  refine ⟨y, H, I.kept hk, ry, q i y hy ?_⟩
  have e1 := SeqAt.readOf_eq (canLay_at hl hm) (reads_keeps hk r1)
  have e2 := SeqAt.readOf_eq (canLay_at hl (minD_mem x xs)) hrd
  have e3 : (x :: xs).getD i .none = minD x xs := e1.symm.trans e2
  rw [← e3, List.getElem?_eq_getElem hi]
  simp [List.getD, List.getElem?_eq_getElem hi]
end L2
namespace L2
open PySem PySem.Spec PyProof.Rows PySem.W
/-- set(t), t a tuple of ints -/
def rSetOfI (K : PySem.W.Frag) (w : World) : List V → Hp → VK → Prop := fun xs H Q => ∃ (l : Addr) (ns : List Int), xs = [V.ref l] ∧ SqT K H l (ns.map V.int) ∧ ns.length < 60 ∧
  ∀ a c, H a = none → c ≤ ns.length → Q (.ref a) (upd H a (SetO w a (fun j => decide (j ∈ ns)) c))
theorem cr_setOfI {X : Cx} (hc : X.calm = true) : CallR X (.type "set") (rSetOfI X.K X.w) := by
  intro pins s σ H xs us Q I r h
  obtain ⟨l, ns, rfl, hl, h60, q⟩ := h
  rw [Vals.ref1 r]
  obtain ⟨its, rv, pt, hz⟩ := I.tuple hl
  have hi : IntsAre its.toArray.toList ns := ints_of_vals rv
  refine call_set_tupI ns (I.ok.hd hc) (show s.heap.IsTuple l its.toArray from pt) hi (by unfold scanBound; omega) fun h' tk c R1 hcn k => ?_
  exact ⟨.ref s.heap.objs.size, upd H s.heap.objs.size (SetO X.w s.heap.objs.size (fun j => decide (j ∈ ns)) c), I.laid (t' := tk) k (Nat.le_refl _) (setO_new R1), rfl, q _ c (I.hok.fresh (Nat.le_refl _)) hcn⟩
def tSortSet (K : PySem.W.Frag) (w : World) (te : TE) : TE := fun σ H Q => te σ H fun x H1 => rSetOfI K w [x] H1 fun y H2 => rSortedSet w [y] H2 Q
theorem bt_set' : bootBuiltins "set" = some (.type "set") := by decide +kernel
theorem bt_sorted' : bootBuiltins "sorted" = some (.builtin "sorted") := by decide +kernel
theorem pe_sortSet {X : Cx} {e : Expr} {te : TE} {p1 p2 pos1 pos2 : Pos} (hc : X.calm = true) (g1 : Gl X "sorted") (m1 : X.mg "sorted" = none) (g2 : Gl X "set") (m2 : X.mg "set" = none) (he : PE X e te)
    (hs : starEach [e] X.env = (false, eval e X.env) :: starEach [] X.env := by rfl) : PE X (.Call (.Name "sorted" p1) [.Call (.Name "set" p2) [e] [] pos2] [] pos1) (tSortSet X.K X.w te) :=
  En.PE.imp (pe_callB (cr_sortedSet hc) g1 m1 bt_sorted' (pa_cons (pe_callTy (cr_setOfI hc) g2 m2 bt_set' (pa_cons he pa_nil hs) (by decide) (by decide) hs rfl) pa_nil)) fun σ H Q h => h
end L2
namespace En
open PySem L2
/-- put into its place, once -/
def insU (x : Int) : List Int → List Int
  | [] => [x]
  | y :: r => if x < y then x :: y :: r else if x = y then y :: r else y :: insU x r
def sortU : List Int → List Int
  | [] => []
  | x :: r => insU x (sortU r)
theorem insU_mem {x k : Int} : ∀ {l : List Int}, k ∈ insU x l ↔ k = x ∨ k ∈ l
  | [] => by simp [insU]
  | y :: r => by
    unfold insU
    split
    · simp
    · split
      · rename_i h; subst h; simp
      · simp only [List.mem_cons, insU_mem (l := r)]
        constructor
        · rintro (h | h | h)
          · exact .inr (.inl h)
          · exact .inl h
          · exact .inr (.inr h)
        · rintro (h | h | h)
          · exact .inr (.inl h)
          · exact .inl h
          · exact .inr (.inr h)
theorem insU_lt {x : Int} : ∀ {l : List Int}, l.Pairwise (· < ·) → (insU x l).Pairwise (· < ·)
  | [], _ => by simp [insU]
  | y :: r, h => by
    have h' := List.pairwise_cons.mp h
    unfold insU
    split
    · rename_i hx
      refine List.pairwise_cons.mpr ⟨fun z hz => ?_, h⟩
      rcases List.mem_cons.mp hz with rfl | hz
      · exact hx
      · have := h'.1 z hz; omega
    · split
      · exact h
      · rename_i h1 h2
        refine List.pairwise_cons.mpr ⟨fun z hz => ?_, insU_lt h'.2⟩
        rcases insU_mem.mp hz with rfl | hz
        · omega
        · exact h'.1 z hz
theorem sortU_mem {k : Int} : ∀ {l : List Int}, k ∈ sortU l ↔ k ∈ l
  | [] => by simp [sortU]
  | x :: r => by rw [sortU, insU_mem, sortU_mem (l := r), List.mem_cons]
theorem sortU_lt : ∀ {l : List Int}, (sortU l).Pairwise (· < ·)
  | [] => List.Pairwise.nil
  | x :: r => insU_lt (sortU_lt (l := r))
theorem sorted_one : ∀ {a b : List Int}, a.Pairwise (· < ·) → b.Pairwise (· < ·) → (∀ k, k ∈ a ↔ k ∈ b) → a = b
  | [], [], _, _, _ => rfl
  | [], y :: b, _, _, h => absurd ((h y).mpr (List.mem_cons_self ..)) (by simp)
  | x :: a, [], _, _, h => absurd ((h x).mp (List.mem_cons_self ..)) (by simp)
  | x :: a, y :: b, ha, hb, h => by
    have ha' := List.pairwise_cons.mp ha
    have hb' := List.pairwise_cons.mp hb
    have hxy : x = y := by
      have h1 := (h x).mp (List.mem_cons_self ..)
      have h2 := (h y).mpr (List.mem_cons_self ..)
      rcases List.mem_cons.mp h1 with e | h1
      · exact e
      · rcases List.mem_cons.mp h2 with e | h2
        · exact e.symm
        · have := hb'.1 x h1
          have := ha'.1 y h2
          omega
    subst hxy
    congr 1
    refine sorted_one ha'.2 hb'.2 fun k => ?_
    constructor
    · intro hk
      have h1 := (h k).mp (List.mem_cons_of_mem _ hk)
      rcases List.mem_cons.mp h1 with e | h1
      · have := ha'.1 k hk; omega
      · exact h1
    · intro hk
      have h1 := (h k).mpr (List.mem_cons_of_mem _ hk)
      rcases List.mem_cons.mp h1 with e | h1
      · have := hb'.1 k hk; omega
      · exact h1
/-- sorted(set(t)) -/
def mSortSet (m : ME) : ME := fun ρ S => (m ρ S).bind fun d S1 => match d with
  | .tup ds => match ints? ds with
    | some ns => if ns.length < 60 then .ok (.loc S1.length) (S1 ++ [.lst ((sortU ns).map D.int)]) else .bad
    | none => .bad
  | _ => .bad
theorem pm_sortSet {X : Cx} {e : Expr} {m : ME} {p1 p2 pos1 pos2 : Pos} (g1 : Gl X "sorted") (m1 : X.mg "sorted" = none) (g2 : Gl X "set") (m2 : X.mg "set" = none) (hc : X.calm = true) (he : PM X e m)
    (hs : starEach [e] X.env = (false, eval e X.env) :: starEach [] X.env := by rfl) : PM X (.Call (.Name "sorted" p1) [.Call (.Name "set" p2) [e] [] pos2] [] pos1) (mSortSet m) := PE.imp (pe_sortSet hc g1 m1 g2 m2 he hs) fun σ H Q ⟨μ, S, ρ, d, S', r, en, h, k⟩ => by
  obtain ⟨x, S1, h1, h2⟩ := R.bind_ok h
  refine ⟨μ, S, ρ, x, S1, r, en, h1, fun μ1 v H1 a1 r1 q1 => ?_⟩
  cases x with
  | tup ds =>
    simp only at h2
    cases e1 : ints? ds with
    | none => rw [e1] at h2; cases h2
    | some ns =>
      rw [e1] at h2
      simp only at h2
      split at h2
      · rename_i hl
        cases h2
        obtain ⟨p, vs, rfl, hs', q2⟩ := rep_tup q1
        have ev := ints_rep e1 q2
        subst ev
        refine ⟨p, ns, rfl, hs', hl, fun a c ha hcn => ?_⟩
        refine ⟨a, _, c, rfl, upd_same, by omega, fun ks p2 hk hm _ hp => ?_⟩
        have ek : ks = sortU ns := sorted_one hk sortU_lt fun j => by rw [hm j, sortU_mem, decide_eq_true_eq]
        subst ek
        have A : After μ1 H1 μ1 (upd H1 a (SetO X.w a (fun j => decide (j ∈ ns)) c)) := After.new ha
        exact newLst (r1.keep ha) (reps_ints _) hp fun μ2 v H2 a2 => k μ2 v H2 (a1.trans (A.trans a2))
      · cases h2
  | _ => cases h2
theorem W_sortSet {m : ME} {ρ : En.Env} {S : Sto} {Q : D → Sto → Prop} : W (mSortSet m ρ S) Q = W (m ρ S) fun d S1 => match d with | .tup ds => (match ints? ds with | some ns => ns.length < 60 ∧ Q (.loc S1.length) (S1 ++ [.lst ((sortU ns).map D.int)]) | none => False) | _ => False := by
  unfold mSortSet; simp only [W_bind]; congr; funext d S1
  cases d with
  | tup ds =>
    simp only
    cases ints? ds with
    | none => simp only [W_bad]
    | some ns =>
      simp only [W_ite, W_ok, W_bad]
      by_cases h : ns.length < 60 <;> simp [h]
  | _ => simp only [W_bad]
/-! ### min of a list of data -/
mutual
theorem pyD_inj : ∀ {a b : D} {p : PyData}, pyD (fun _ => none) a = some p → pyD (fun _ => none) b = some p → a = b
  | .non, b, p, h, k => by simp only [pyD] at h; cases h; cases b <;> simp [pyD] at k <;> rfl
  | .bl x, b, p, h, k => by simp only [pyD] at h; cases h; cases b <;> simp [pyD] at k; subst k; rfl
  | .int x, b, p, h, k => by simp only [pyD] at h; cases h; cases b <;> simp [pyD] at k; subst k; rfl
  | .str x, b, p, h, k => by simp only [pyD] at h; cases h; cases b <;> simp [pyD] at k; subst k; rfl
  | .tup xs, b, p, h, k => by
    simp only [pyD] at h
    cases e : pyAll (fun _ => none) xs with
    | none => rw [e] at h; cases h
    | some ps =>
      rw [e] at h
      cases h
      cases b with
      | tup ys =>
        simp only [pyD] at k
        cases e2 : pyAll (fun _ => none) ys with
        | none => rw [e2] at k; cases k
        | some qs =>
          rw [e2] at k
          cases k
          rw [pyAll_inj e e2]
      | rol ys => simp only [pyD] at k; cases e2 : pyAll (fun _ => none) ys <;> rw [e2] at k <;> cases k
      | _ => simp [pyD] at k
  | .rol xs, b, p, h, k => by
    simp only [pyD] at h
    cases e : pyAll (fun _ => none) xs with
    | none => rw [e] at h; cases h
    | some ps =>
      rw [e] at h
      cases h
      cases b with
      | rol ys =>
        simp only [pyD] at k
        cases e2 : pyAll (fun _ => none) ys with
        | none => rw [e2] at k; cases k
        | some qs =>
          rw [e2] at k
          cases k
          rw [pyAll_inj e e2]
      | tup ys => simp only [pyD] at k; cases e2 : pyAll (fun _ => none) ys <;> rw [e2] at k <;> cases k
      | _ => simp [pyD] at k
  | .loc i, b, p, h, k => by simp [pyD] at h
theorem pyAll_inj : ∀ {a b : List D} {p : List PyData}, pyAll (fun _ => none) a = some p → pyAll (fun _ => none) b = some p → a = b
  | [], b, p, h, k => by
    simp only [pyAll] at h; cases h
    cases b with
    | nil => rfl
    | cons y ys => simp only [pyAll] at k; split at k <;> cases k
  | x :: xs, b, p, h, k => by
    simp only [pyAll] at h
    split at h
    · rename_i p1 p2 e1 e2
      cases h
      cases b with
      | nil => simp only [pyAll] at k; cases k
      | cons y ys =>
        simp only [pyAll] at k
        split at k
        · rename_i q1 q2 f1 f2
          cases k
          rw [pyD_inj e1 f1, pyAll_inj e2 f2]
        · cases k
    · cases h
end
theorem pyAll_at {f : Nat → Option PyData} : ∀ {ds : List D} {ps : List PyData} {i : Nat} {d : D}, pyAll f ds = some ps → ds[i]? = some d → ∃ p, ps[i]? = some p ∧ pyD f d = some p
  | [], ps, i, d, h, e => by simp at e
  | x :: xs, ps, i, d, h, e => by
    simp only [pyAll] at h
    split at h
    · rename_i p1 p2 e1 e2
      cases h
      cases i with
      | zero => simp at e; subst e; exact ⟨p1, rfl, e1⟩
      | succ i => simpa using pyAll_at e2 (by simpa using e)
    · cases h
open Classical in
noncomputable def minLD : MF := fun ds S => match ds with
  | [d] => match lstD S d with
    | some es => if h : ∃ z, ∃ x xs, pyAll (fun _ => none) es = some (x :: xs) ∧ PySem.W.AlikeAll (x :: xs) ∧ PyData.canLayAll0 (x :: xs) = true ∧ PyData.depthAll (x :: xs) ≤ 60 ∧ z ∈ es ∧ pyD (fun _ => none) z = some (PySem.W.minD x xs) then .ok (choose h) S else .bad
    | none => .bad
  | _ => .bad
theorem o_minL {X : Cx} (hc : X.calm = true) (hu : X.A.units + 65 < cLine) : OC X (.builtin "min") minLD := CallR.imp (cr_minD hc hu) fun vs H Q ⟨μ, S, ds, d, S', r, pa, h, k⟩ => by
  unfold minLD at h
  split at h
  · rename_i d0
    obtain ⟨v, rfl, q⟩ := reps1 pa
    split at h
    · rename_i es e
      split at h
      · rename_i hx
        obtain ⟨x, xs, e1, al, cl, dp, hm, ez⟩ := Classical.choose_spec hx
        cases h
        obtain ⟨p, ys, rfl, hs, qs⟩ := lst_rep r e q
        refine ⟨p, ys, x, xs, rfl, hs, dpAll_of (f := fun _ => none) (by intro i p v hn; cases hn) e1 qs, al, cl, dp, fun i y hy hi => ?_⟩
        have hil : i < es.length := by
          have := (List.getElem?_eq_some_iff.mp hy).1
          rw [qs.length] at this
          exact this
        obtain ⟨y', hy', qy⟩ := qs.get (List.getElem?_eq_getElem hil)
        rw [hy] at hy'
        cases hy'
        obtain ⟨p1, hp1, hp2⟩ := pyAll_at e1 (List.getElem?_eq_getElem hil)
        rw [hi] at hp1
        cases hp1
        have : es[i] = Classical.choose hx := pyD_inj hp2 ez
        rw [this] at qy
        exact k.same r qy
      · cases h
    · cases h
  · cases h
theorem tri_all : ∀ {es : List D}, (∀ z ∈ es, ∃ a b c : Int, z = .tup [.int a, .int b, .int c]) → ∃ ps, pyAll (fun _ => none) es = some ps ∧ ps.length = es.length ∧ (∀ p ∈ ps, ∃ a b c : Int, p = .tuple [.int a, .int b, .int c]) ∧ (∀ p ∈ ps, ∃ z ∈ es, pyD (fun _ => none) z = some p) ∧ PyData.canLayAll0 ps = true ∧ PyData.depthAll ps ≤ 1
  | [], _ => ⟨[], by simp only [pyAll], rfl, by simp, by simp, rfl, Nat.zero_le _⟩
  | z :: es, h => by
    obtain ⟨a, b, c, rfl⟩ := h z (List.mem_cons_self ..)
    obtain ⟨ps, e, hl, h1, h2, h3, h4⟩ := tri_all (es := es) fun z hz => h z (List.mem_cons_of_mem _ hz)
    have ez : pyD (fun _ => none) (.tup [.int a, .int b, .int c]) = some (.tuple [.int a, .int b, .int c]) := by simp [pyD, pyAll]
    refine ⟨.tuple [.int a, .int b, .int c] :: ps, by simp only [pyAll, ez, e], by simp [hl], ?_, ?_, ?_, ?_⟩
    · intro p hp
      rcases List.mem_cons.mp hp with rfl | hp
      · exact ⟨a, b, c, rfl⟩
      · exact h1 p hp
    · intro p hp
      rcases List.mem_cons.mp hp with rfl | hp
      · exact ⟨_, List.mem_cons_self .., ez⟩
      · obtain ⟨z, hz, e⟩ := h2 p hp
        exact ⟨z, List.mem_cons_of_mem _ hz, e⟩
    · simp [PyData.canLayAll0, PyData.canLay0, h3]
    · simp [PyData.depthAll, PyData.depth]; omega
theorem W_minL {S : Sto} {Q : D → Sto → Prop} {d e : D} {es : List D} (h : lstD S d = some (e :: es)) (hk : ∀ z ∈ e :: es, ∃ a b c : Int, z = .tup [.int a, .int b, .int c]) (k : ∀ z ∈ e :: es, Q z S) : W (minLD [d] S) Q := by
  obtain ⟨ps, e1, hl, h1, h2, h3, h4⟩ := tri_all hk
  cases ps with
  | nil => simp at hl
  | cons x xs =>
    obtain ⟨z, hz, ez⟩ := h2 _ (minD_mem x xs)
    have al : PySem.W.AlikeAll (x :: xs) := by
      refine ⟨fun p hp q hq => ?_, fun p hp => ?_⟩
      · obtain ⟨a, b, c, rfl⟩ := h1 p hp
        obtain ⟨a', b', c', rfl⟩ := h1 q hq
        simp [PySem.W.alike, PySem.W.alikeAll]
      · obtain ⟨a, b, c, rfl⟩ := h1 p hp
        exact fun e => nomatch e
    have hx : ∃ z, ∃ x xs, pyAll (fun _ => none) (e :: es) = some (x :: xs) ∧ PySem.W.AlikeAll (x :: xs) ∧ PyData.canLayAll0 (x :: xs) = true ∧ PyData.depthAll (x :: xs) ≤ 60 ∧ z ∈ e :: es ∧ pyD (fun _ => none) z = some (PySem.W.minD x xs) := ⟨z, x, xs, e1, al, h3, by omega, hz, ez⟩
    refine ⟨Classical.choose hx, S, ?_, ?_⟩
    · unfold minLD
      simp only [h]
      rw [dif_pos hx]
    · obtain ⟨_, _, _, _, _, _, hm, _⟩ := Classical.choose_spec hx
      exact k _ hm
end En
namespace L_k07
open PySem L2 En
noncomputable section
def m__law_row_by : MF := mFun 4 1
    (sSeq (sAsg (mTup (mCons (mC (.int 1)) mNil)) (gmName 1))
    (sSeq (sFor (iSeq (mVar 0)) (gmSeq 2 (gmCons (gmName 2) (gmCons (gmName 3) gmNil))) (sAsg (mBin addD (mVar 1) (mTup (mCons (mBin addD (mBin ixD (mVar 1) (mVar 2)) (mBin ixD (mVar 1) (mVar 3))) mNil))) (gmName 1)))
    (sRet (mVar 1))))
def m__law_known : MF := mFun 3 0
    (sSeq (sAsg (mCall m__law_row_by (mCons (mCall tupleD (mCons (mLc (iRange1 (mCons (mC (.int 29)) mNil)) (gmName 1) mYes (mTup (mCons (mVar 1) (mCons (mVar 1) mNil))) [1]) mNil)) mNil)) (gmName 0))
    (sSeq (sAsg (mCall m__law_row_by (mCons (mCall tupleD (mCons (mLc (iRange1 (mCons (mC (.int 29)) mNil)) (gmName 1) mYes (mTup (mCons (mVar 1) (mCons (mC (.int 0)) mNil))) [1]) mNil)) mNil)) (gmName 2))
    (sRet (mTup (mCons (mTup (mCons (mC (.int 1)) mNil)) (mCons (mTup (mCons (mC (.int 1)) (mCons (mC (.int 2)) mNil))) (mCons (mTup (mCons (mC (.int 1)) (mCons (mC (.int 2)) (mCons (mC (.int 3)) (mCons (mC (.int 4)) (mCons (mC (.int 6)) mNil)))))) (mCons (mTup (mCons (mC (.int 1)) (mCons (mC (.int 2)) (mCons (mC (.int 3)) (mCons (mC (.int 5)) mNil))))) (mCons (mTup (mCons (mC (.int 1)) (mCons (mC (.int 2)) (mCons (mC (.int 4)) (mCons (mC (.int 5)) (mCons (mC (.int 8)) (mCons (mC (.int 13)) mNil))))))) (mCons (mTup (mCons (mC (.int 1)) (mCons (mC (.int 2)) (mCons (mC (.int 4)) (mCons (mC (.int 5)) (mCons (mC (.int 10)) mNil)))))) (mCons (mTup (mCons (mC (.int 1)) (mCons (mC (.int 2)) (mCons (mC (.int 3)) (mCons (mC (.int 5)) (mCons (mC (.int 10)) (mCons (mC (.int 20)) (mCons (mC (.int 23)) mNil)))))))) (mCons (mVar 0) (mCons (mVar 2) (mCons (mTup (mCons (mC (.int 1)) (mCons (mC (.int 2)) (mCons (mC (.int 3)) (mCons (mC (.int 4)) (mCons (mC (.int 5)) (mCons (mC (.int 6)) (mCons (mC (.int 7)) (mCons (mC (.int 8)) mNil))))))))) (mCons (mTup (mCons (mC (.int 1)) (mCons (mC (.int 2)) (mCons (mC (.int 3)) (mCons (mC (.int 6)) (mCons (mC (.int 12)) (mCons (mC (.int 15)) mNil))))))) mNil)))))))))))))))
def m__law_same : Nat → MF
  | 0 => fun _ _ => .bad
  | n + 1 => mFun 3 2
    (sSeq (sIf (mOrT (mTru (mUn (isiD "tuple") (mVar 1))) (mTru (mUn (isiD "tuple") (mVar 0)))) (sSeq (sIf (mOrT (mNotT (mTru (mUn (isiD "tuple") (mVar 1)))) (mOrT (mNotT (mTru (mUn (isiD "tuple") (mVar 0)))) (mTst (mBin neD (mCall lenD (mCons (mVar 0) mNil)) (mCall lenD (mCons (mVar 1) mNil)))))) (sRet (mC (.bl false))) sNext)
    (sRet (mBin eqD (mLc (iRange1 (mCons (mCall lenD (mCons (mVar 1) mNil)) mNil)) (gmName 2) (mNotT (mTru (mCall (m__law_same n) (mCons (mBin ixD (mVar 0) (mVar 2)) (mCons (mBin ixD (mVar 1) (mVar 2)) mNil))))) (mVar 2) [2]) (mLst mNil)))) sNext)
    (sSeq (sIf (mOrT (mTst (mBin isD (mVar 1) (mC .non))) (mTst (mBin isD (mVar 0) (mC .non)))) (sRet (mAndV (mBin isD (mVar 1) (mC .non)) (mBin isD (mVar 0) (mC .non)))) sNext)
    (sSeq (sIf (mOrT (mTst (mBin neD (mUn (isiD "bool") (mVar 1)) (mUn (isiD "bool") (mVar 0)))) (mOrT (mTst (mBin neD (mUn (isiD "int") (mVar 1)) (mUn (isiD "int") (mVar 0)))) (mTst (mBin neD (mUn (isiD "str") (mVar 1)) (mUn (isiD "str") (mVar 0)))))) (sRet (mC (.bl false))) sNext)
    (sRet (mBin isD (mBin eqD (mVar 0) (mVar 1)) (mC (.bl true)))))))
def m__law_draw : MF := mFun 3 2
    (sSeq (sIf (mTst (mBin gtD (mBin ixD (mVar 0) (mC (.int 0))) (mC (.int 0)))) (sSeq (sAsg (mCall divmodD (mCons (mBin ixD (mVar 0) (mC (.int 0))) (mCons (mVar 1) mNil))) (gmSeq 2 (gmCons (gmSub (mVar 0) (mC (.int 0))) (gmCons (gmName 2) gmNil))))
    (sRet (mVar 2))) sNext)
    (sSeq (sAsg (mBin modD (mCall intD (mCons (mBin addD (mBin mulD (mBin ixD (mVar 0) (mC (.int 1))) (mC (.int 36969))) (mC (.int 19))) mNil)) (mC (.int 2147483423))) (gmSub (mVar 0) (mC (.int 1))))
    (sSeq (sAsg (mBin modD (mCall intD (mCons (mBin addD (mBin mulD (mBin ixD (mVar 0) (mC (.int 1))) (mC (.int 18000))) (mBin fdivD (mBin ixD (mVar 0) (mC (.int 1))) (mC (.int 6263)))) mNil)) (mC (.int 2147483423))) (gmSub (mVar 0) (mC (.int 1))))
    (sRet (mBin modD (mCall intD (mCons (mBin fdivD (mBin ixD (mVar 0) (mC (.int 1))) (mC (.int 907))) mNil)) (mVar 1))))))
def m__law_of : MF := mFun 2 2
    (sRet (mBin ixD (mVar 1) (mCall m__law_draw (mCons (mVar 0) (mCons (mCall lenD (mCons (mVar 1) mNil)) mNil)))))
def m__law_plan : MF := mFun 10 2
    (sSeq (sAsg (mTup (mCons (mCall m__law_draw (mCons (mVar 0) (mCons (mC (.int 6)) mNil))) (mCons (mTup mNil) (mCons (mTup (mCons (mC (.int 1)) mNil)) mNil)))) (gmSeq 3 (gmCons (gmName 2) (gmCons (gmName 3) (gmCons (gmName 4) gmNil)))))
    (sSeq (sFor (iRange1 (mCons (mCall m__law_draw (mCons (mVar 0) (mCons (mBin addD (mVar 1) (mC (.int 1))) mNil))) mNil)) (gmName 5) (sSeq (sAsg (mLst mNil) (gmName 6))
    (sSeq (sFor (iRange2 (mCons (mCall max2D (mCons (mC (.int 0)) (mCons (mBin subD (mCall lenD (mCons (mVar 4) mNil)) (mC (.int 7))) mNil))) (mCons (mCall lenD (mCons (mVar 4) mNil)) mNil))) (gmName 7) (sAsg (mBin addD (mVar 6) (mLc (iRange1 (mCons (mBin addD (mVar 7) (mC (.int 1))) mNil)) (gmName 8) (mTst (mBin gtD (mBin addD (mBin ixD (mVar 4) (mVar 7)) (mBin ixD (mVar 4) (mVar 8))) (mBin ixD (mVar 4) (mUn negD (mC (.int 1)))))) (mTup (mCons (mVar 7) (mCons (mVar 8) mNil))) [8])) (gmName 6)))
    (sSeq (sAsg (mIf (mTst (mBin inD (mVar 2) (mTup (mCons (mC (.int 1)) (mCons (mC (.int 2)) mNil))))) (mLc (iSeq (mVar 6)) (gmName 9) (mTst (mBin eqD (mBin ixD (mVar 9) (mC (.int 0))) (mVar 5))) (mVar 9) [9]) (mVar 6)) (gmName 6))
    (sSeq (sAsg (mCall m__law_of (mCons (mVar 0) (mCons (mVar 6) mNil))) (gmName 9))
    (sSeq (sIf (mOrT (mAndT (mTst (mBin eqD (mVar 2) (mC (.int 3)))) (mTst (mBin gtD (mCall m__law_draw (mCons (mVar 0) (mCons (mC (.int 3)) mNil))) (mC (.int 0))))) (mTst (mBin eqD (mVar 2) (mC (.int 5))))) (sAsg (mTup (mCons (mVar 5) (mCons (mVar 5) mNil))) (gmName 9)) sNext)
    (sSeq (sIf (mTst (mBin eqD (mVar 2) (mC (.int 4)))) (sAsg (mSl (mCall minLD (mCons (mLc (iSeq (mVar 6)) (gmSeq 2 (gmCons (gmName 7) (gmCons (gmName 8) gmNil))) mYes (mTup (mCons (mBin addD (mBin ixD (mVar 4) (mVar 7)) (mBin ixD (mVar 4) (mVar 8))) (mCons (mVar 7) (mCons (mVar 8) mNil)))) [7, 8]) mNil)) (mPart (mC (.int 1))) mNoPart) (gmName 9)) sNext)
    (sAsg (mTup (mCons (mBin addD (mVar 3) (mTup (mCons (mVar 9) mNil))) (mCons (mBin addD (mVar 4) (mTup (mCons (mBin addD (mBin ixD (mVar 4) (mBin ixD (mVar 9) (mC (.int 0)))) (mBin ixD (mVar 4) (mBin ixD (mVar 9) (mC (.int 1))))) mNil))) mNil))) (gmSeq 2 (gmCons (gmName 3) (gmCons (gmName 4) gmNil)))))))))))
    (sRet (mVar 3))))
def m__law_row : MF := mFun 2 2
    (sRet (mCall m__law_row_by (mCons (mCall m__law_plan (mCons (mVar 0) (mCons (mVar 1) mNil))) mNil)))
def m_is_whole : MF := mFun 1 1
    (sRet (mAndV (mUn (isiD "int") (mVar 0)) (mNotV (mUn (isiD "bool") (mVar 0)))))
def m_is_sum_in : MF := mFun 3 2
    (sRet (mCall anyD (mCons (mLc (iSeq (mVar 0)) (gmName 2) mYes (mBin inD (mBin subD (mVar 1) (mVar 2)) (mVar 0)) [2]) mNil)))
def m_wrong_in_row : MF := mFun 3 1
    (sSeq (sIf (mOrT (mNotT (mTru (mUn (isiD "tuple") (mVar 0)))) (mTst (mBin eqD (mVar 0) (mTup mNil)))) (sRet (mLst (mCons (mC .non) mNil))) sNext)
    (sSeq (sFor (iEnum' (mVar 0)) (gmSeq 2 (gmCons (gmName 1) (gmCons (gmName 2) gmNil))) (sSeq (sIf (mOrT (mTst (mBin eqD (mVar 1) (mC (.int 30)))) (mNotT (mTru (mCall m_is_whole (mCons (mVar 2) mNil))))) (sRet (mLst (mCons (mVar 1) mNil))) sNext)
    (sSeq (sIf (mAndT (mTst (mBin eqD (mVar 1) (mC (.int 0)))) (mTst (mBin neD (mVar 2) (mC (.int 1))))) (sRet (mLst (mCons (mVar 1) mNil))) sNext)
    (sIf (mAndT (mTst (mBin gtD (mVar 1) (mC (.int 0)))) (mOrT (mTst (mBin leD (mVar 2) (mBin ixD (mVar 0) (mBin subD (mVar 1) (mC (.int 1)))))) (mNotT (mTru (mCall m_is_sum_in (mCons (mSl (mVar 0) mNoPart (mPart (mVar 1))) (mCons (mVar 2) mNil))))))) (sRet (mLst (mCons (mVar 1) mNil))) sNext))))
    (sRet (mLst mNil))))
def m_check_row : MF := mFun 2 1
    (sFor (iSeq (mCall m_wrong_in_row (mCons (mVar 0) mNil))) (gmName 1) sBad)
def m_is_row_value : MF := mFun 1 1
    (sRet (mBin eqD (mCall m_wrong_in_row (mCons (mVar 0) mNil)) (mLst mNil)))
def m_without : MF := mFun 2 2
    (sRet (mBin addD (mSl (mVar 0) mNoPart (mPart (mVar 1))) (mSl (mVar 0) (mPart (mBin addD (mVar 1) (mC (.int 1)))) mNoPart)))
def m_needless_in : MF := mFun 2 1
    (sRet (mLc (iRange2 (mCons (mC (.int 1)) (mCons (mBin subD (mCall lenD (mCons (mVar 0) mNil)) (mC (.int 1))) mNil))) (gmName 1) (mTru (mCall m_is_row_value (mCons (mCall m_without (mCons (mVar 0) (mCons (mVar 1) mNil))) mNil))) (mVar 1) [1]))
def m_needless : MF := mFun 1 1
    (sSeq (sExpr (mCall m_check_row (mCons (mVar 0) mNil)))
    (sRet (mCall tupleD (mCons (mCall m_needless_in (mCons (mVar 0) mNil)) mNil))))
def m_leaned_by : MF := mFun 2 1
    (sSeq (sAsg (mCall m_needless_in (mCons (mVar 0) mNil)) (gmName 1))
    (sSeq (sWhile 100000 (mTst (mBin neD (mVar 1) (mLst mNil))) (sSeq (sAsg (mCall m_without (mCons (mVar 0) (mCons (mBin ixD (mVar 1) (mC (.int 0))) mNil))) (gmName 0))
    (sAsg (mCall m_needless_in (mCons (mVar 0) mNil)) (gmName 1))))
    (sRet (mVar 0))))
def m_leaned : MF := mFun 1 1
    (sSeq (sExpr (mCall m_check_row (mCons (mVar 0) mNil)))
    (sRet (mCall m_leaned_by (mCons (mVar 0) mNil))))
def m_is_lean : MF := mFun 1 1
    (sRet (mBin eqD (mCall m_needless (mCons (mVar 0) mNil)) (mTup mNil)))
def m__law_is_whole : MF := mFun 1 1
    (sRet (mAndV (mUn (isiD "int") (mVar 0)) (mNotV (mUn (isiD "bool") (mVar 0)))))
def m__law_reasons : MF := mFun 5 2
    (sSeq (sAsg (mLst mNil) (gmName 2))
    (sSeq (sFor (iRange1 (mCons (mVar 1) mNil)) (gmName 3) (sAsg (mBin addD (mVar 2) (mLc (iRange1 (mCons (mBin addD (mVar 3) (mC (.int 1))) mNil)) (gmName 4) (mTst (mBin eqD (mBin addD (mBin ixD (mVar 0) (mVar 3)) (mBin ixD (mVar 0) (mVar 4))) (mBin ixD (mVar 0) (mVar 1)))) (mTup (mCons (mVar 3) (mCons (mVar 4) mNil))) [4])) (gmName 2)))
    (sRet (mCall tupleD (mCons (mVar 2) mNil)))))
def m__law_row_wrong : MF := mFun 2 1
    (sSeq (sIf (mOrT (mNotT (mTru (mUn (isiD "tuple") (mVar 0)))) (mTst (mBin eqD (mVar 0) (mTup mNil)))) (sRet (mC .non)) sNext)
    (sSeq (sFor (iRange1 (mCons (mCall lenD (mCons (mVar 0) mNil)) mNil)) (gmName 1) (sIf (mOrT (mTst (mBin eqD (mVar 1) (mC (.int 30)))) (mOrT (mNotT (mTru (mCall m__law_is_whole (mCons (mBin ixD (mVar 0) (mVar 1)) mNil)))) (mOrT (mAndT (mTst (mBin eqD (mVar 1) (mC (.int 0)))) (mTst (mBin neD (mBin ixD (mVar 0) (mVar 1)) (mC (.int 1))))) (mAndT (mTst (mBin gtD (mVar 1) (mC (.int 0)))) (mOrT (mTst (mBin leD (mBin ixD (mVar 0) (mVar 1)) (mBin ixD (mVar 0) (mBin subD (mVar 1) (mC (.int 1)))))) (mTst (mBin eqD (mCall m__law_reasons (mCons (mVar 0) (mCons (mVar 1) mNil))) (mTup mNil)))))))) (sRet (mVar 1)) sNext))
    (sRet (mC (.str "right")))))
def m__law_needless : MF := mFun 2 1
    (sRet (mCall tupleD (mCons (mLc (iRange2 (mCons (mC (.int 1)) (mCons (mBin subD (mCall lenD (mCons (mVar 0) mNil)) (mC (.int 1))) mNil))) (gmName 1) (mTst (mBin eqD (mCall m__law_row_wrong (mCons (mBin addD (mSl (mVar 0) mNoPart (mPart (mVar 1))) (mSl (mVar 0) (mPart (mBin addD (mVar 1) (mC (.int 1)))) mNoPart)) mNil)) (mC (.str "right")))) (mVar 1) [1]) mNil)))
def m__law_leaned : MF := mFun 2 1
    (sSeq (sWhile 100000 (mTst (mBin neD (mCall m__law_needless (mCons (mVar 0) mNil)) (mTup mNil))) (sSeq (sAsg (mBin ixD (mCall m__law_needless (mCons (mVar 0) mNil)) (mC (.int 0))) (gmName 1))
    (sAsg (mBin addD (mSl (mVar 0) mNoPart (mPart (mVar 1))) (mSl (mVar 0) (mPart (mBin addD (mVar 1) (mC (.int 1)))) mNoPart)) (gmName 0))))
    (sRet (mVar 0)))
def m_made : MF := mFun 1 1
    (sSeq (sExpr (mCall m_check_row (mCons (mVar 0) mNil)))
    (sRet (mBin ixD (mVar 0) (mUn negD (mC (.int 1))))))
def m_is_row : MF := mFun 1 1
    (sRet (mCall m_is_row_value (mCons (mVar 0) mNil)))
def m__law_row_right : MF := mFun 5 1
    (sSeq (sAsg (mTup (mCons (mCall m__law_needless (mCons (mVar 0) mNil)) (mCons (mCall m__law_leaned (mCons (mVar 0) mNil)) mNil))) (gmSeq 2 (gmCons (gmName 1) (gmCons (gmName 2) gmNil))))
    (sSeq (sAsg (mTup (mCons (mCall m_needless (mCons (mVar 0) mNil)) (mCons (mCallK m_needless 0 1 [0] mNil (mCons (mVar 0) mNil)) (mCons (mCall m_is_lean (mCons (mVar 0) mNil)) (mCons (mCallK m_is_lean 0 1 [0] mNil (mCons (mVar 0) mNil)) (mCons (mCall m_leaned (mCons (mVar 0) mNil)) (mCons (mCallK m_leaned 0 1 [0] mNil (mCons (mVar 0) mNil)) mNil))))))) (gmName 3))
    (sSeq (sIf (mNotT (mTru (mCall (m__law_same 8) (mCons (mVar 3) (mCons (mTup (mCons (mVar 1) (mCons (mVar 1) (mCons (mBin eqD (mVar 1) (mTup mNil)) (mCons (mBin eqD (mVar 1) (mTup mNil)) (mCons (mVar 2) (mCons (mVar 2) mNil))))))) mNil))))) (sRet (mC (.bl false))) sNext)
    (sSeq (sIf (mNotT (mTru (mCall (m__law_same 8) (mCons (mTup (mCons (mCall m_needless (mCons (mVar 2) mNil)) (mCons (mCall m_is_lean (mCons (mVar 2) mNil)) (mCons (mCall m_leaned (mCons (mVar 2) mNil)) (mCons (mCall m_made (mCons (mVar 2) mNil)) (mCons (mCall m_is_row (mCons (mVar 2) mNil)) mNil)))))) (mCons (mTup (mCons (mTup mNil) (mCons (mC (.bl true)) (mCons (mVar 2) (mCons (mCall m_made (mCons (mVar 0) mNil)) (mCons (mC (.bl true)) mNil)))))) mNil))))) (sRet (mC (.bl false))) sNext)
    (sRet (mAndV (mBin eqD (mLc (iRange2 (mCons (mC (.int 1)) (mCons (mBin subD (mCall lenD (mCons (mVar 0) mNil)) (mC (.int 1))) mNil))) (gmName 4) (mTst (mBin neD (mCall m_is_row (mCons (mBin addD (mSl (mVar 0) mNoPart (mPart (mVar 4))) (mSl (mVar 0) (mPart (mBin addD (mVar 4) (mC (.int 1)))) mNoPart)) mNil)) (mBin inD (mVar 4) (mVar 1)))) (mVar 4) [4]) (mLst mNil)) (mAndV (mBin notInD (mC (.int 0)) (mVar 1)) (mBin notInD (mBin subD (mCall lenD (mCons (mVar 0) mNil)) (mC (.int 1))) (mVar 1)))))))))
def m__law_right : MF := mFun 7 1
    (sSeq (sFor (iRange1 (mCons (mC (.int 5)) mNil)) (gmName 1) (sSeq (sAsg (mCall m__law_row (mCons (mVar 0) (mCons (mCall m__law_of (mCons (mVar 0) (mCons (mTup (mCons (mC (.int 2)) (mCons (mC (.int 5)) (mCons (mC (.int 9)) (mCons (mC (.int 14)) mNil))))) mNil))) mNil))) (gmName 2))
    (sSeq (sAsg (mSortSet (mBin addD (mVar 2) (mTup (mCons (mBin addD (mCall m__law_of (mCons (mVar 0) (mCons (mVar 2) mNil))) (mCall m__law_of (mCons (mVar 0) (mCons (mVar 2) mNil)))) mNil)))) (gmName 3))
    (sFor (iSeq (mTup (mCons (mVar 2) (mCons (mCall tupleD (mCons (mVar 3) mNil)) (mCons (mCall m__law_leaned (mCons (mVar 2) mNil)) (mCons (mSl (mCall m__law_row (mCons (mVar 0) (mCons (mC (.int 29)) mNil))) mNoPart (mPart (mC (.int 20)))) mNil)))))) (gmName 4) (sIf (mAndT (mTst (mBin eqD (mCall m__law_row_wrong (mCons (mVar 4) mNil)) (mC (.str "right")))) (mNotT (mTru (mCall m__law_row_right (mCons (mVar 4) mNil))))) (sRet (mC (.bl false))) sNext)))))
    (sSeq (sFor (iSeq (mCall m__law_known mNil)) (gmName 2) (sIf (mNotT (mTru (mCall m__law_row_right (mCons (mVar 2) mNil)))) (sRet (mC (.bl false))) sNext))
    (sSeq (sAsg (mTup (mCons (mC (.int 1)) (mCons (mC (.int 2)) (mCons (mC (.int 3)) (mCons (mC (.int 4)) (mCons (mC (.int 6)) mNil)))))) (gmName 5))
    (sSeq (sAsg (mTup (mCons (mCall m_needless (mCons (mVar 5) mNil)) (mCons (mCall m_leaned (mCons (mVar 5) mNil)) (mCons (mCall m_is_lean (mCons (mVar 5) mNil)) (mCons (mCall m_is_lean (mCons (mTup (mCons (mC (.int 1)) (mCons (mC (.int 2)) (mCons (mC (.int 3)) (mCons (mC (.int 5)) mNil))))) mNil)) (mCons (mCall m_needless (mCons (mTup (mCons (mC (.int 1)) (mCons (mC (.int 2)) (mCons (mC (.int 3)) (mCons (mC (.int 5)) mNil))))) mNil)) (mCons (mCall m_is_lean (mCons (mTup (mCons (mC (.int 1)) mNil)) mNil)) (mCons (mCall m_needless (mCons (mTup (mCons (mC (.int 1)) mNil)) mNil)) (mCons (mCall m_leaned (mCons (mTup (mCons (mC (.int 1)) (mCons (mC (.int 2)) mNil))) mNil)) mNil))))))))) (gmName 6))
    (sRet (mCall (m__law_same 8) (mCons (mVar 6) (mCons (mTup (mCons (mTup (mCons (mC (.int 2)) (mCons (mC (.int 3)) mNil))) (mCons (mTup (mCons (mC (.int 1)) (mCons (mC (.int 2)) (mCons (mC (.int 4)) (mCons (mC (.int 6)) mNil))))) (mCons (mC (.bl false)) (mCons (mC (.bl true)) (mCons (mTup mNil) (mCons (mC (.bl true)) (mCons (mTup mNil) (mCons (mTup (mCons (mC (.int 1)) (mCons (mC (.int 2)) mNil))) mNil))))))))) mNil))))))))
def m__law_bowl : MF := mFun 6 2
    (sSeq (sPar2 2 3 (mCons (mIf (mTst (mBin ltD (mVar 1) (mCall lenD (mCons (mVar 0) mNil)))) (mCall intD (mCons (mBin ixD (mVar 0) (mVar 1)) mNil)) (mC (.int 0))) (mCons (mBin addD (mC (.int 970027)) (mBin mulD (mC (.int 3301)) (mVar 1))) mNil)))
    (sSeq (sFor (iSeq (mSl (mVar 0) mNoPart (mPart (mC (.int 16))))) (gmName 4) (sAsg (mBin modD (mCall intD (mCons (mBin addD (mBin addD (mBin mulD (mVar 3) (mC (.int 54673))) (mBin mulD (mBin modD (mCall intD (mCons (mVar 4) mNil)) (mC (.int 2147483353))) (mC (.int 3)))) (mC (.int 71))) mNil)) (mC (.int 2147483423))) (gmName 3)))
    (sSeq (sAsg (mIf (mOrT (mTst (mBin ltD (mVar 2) (mC (.int 0)))) (mTst (mBin geD (mVar 2) (mBin powD (mC (.int 10)) (mC (.int 16)))))) (mBin modD (mCall absD (mCons (mVar 2) mNil)) (mBin powD (mC (.int 10)) (mC (.int 60)))) (mC (.int 0))) (gmName 5))
    (sRet (mLst (mCons (mVar 5) (mCons (mBin modD (mCall intD (mCons (mBin addD (mBin addD (mBin mulD (mVar 3) (mC (.int 31))) (mBin modD (mCall intD (mCons (mVar 2) mNil)) (mC (.int 2147483353)))) (mC (.int 401))) mNil)) (mC (.int 2147483423))) mNil)))))))
def m_law : MF := mFun 2 1
    (sRet (mCall allD (mCons (mLc (iRange1 (mCons (mCall max2D (mCons (mC (.int 1)) (mCons (mCall min2D (mCons (mCall lenD (mCons (mVar 0) mNil)) (mCons (mC (.int 3)) mNil))) mNil))) mNil)) (gmName 1) mYes (mCall m__law_right (mCons (mCall m__law_bowl (mCons (mVar 0) (mCons (mVar 1) mNil))) mNil)) [1]) mNil)))
end
end L_k07
namespace L_k07
open PySem L2 En
theorem any_int {l : List Int} {i : Int} : ((l.map D.int).any fun y => eqF y (.int i)) = l.contains i := by
  induction l with
  | nil => rfl
  | cons x r ih =>
    rw [List.map_cons, List.any_cons, ih, List.contains_cons]
    show ((x == i) || _) = _
    rw [show (x == i) = (i == x) from by rw [Bool.eq_iff_iff, beq_iff_eq, beq_iff_eq]; exact eq_comm]
theorem all_flat {l : List Int} : (l.map D.int).all flatD = true := by
  rw [List.all_eq_true]
  intro x hx
  obtain ⟨i, _, rfl⟩ := List.mem_map.mp hx
  rfl
theorem W_inI {l : List Int} {i : Int} {S : Sto} {Q : D → Sto → Prop} : W (inD (.int i) (.tup (l.map D.int)) S) Q = Q (.bl (l.contains i)) S := by
  unfold inD inD'
  simp only [itsD, all_flat, flatD, Bool.and_self, if_true, any_int, W_ok, Bool.false_eq_true, if_false]
theorem W_notInI {l : List Int} {i : Int} {S : Sto} {Q : D → Sto → Prop} : W (notInD (.int i) (.tup (l.map D.int)) S) Q = Q (.bl (!l.contains i)) S := by
  unfold notInD inD'
  simp only [itsD, all_flat, flatD, Bool.and_self, if_true, any_int, W_ok]
theorem W_emptyEq {S : Sto} {Q : D → Sto → Prop} {i j : Nat} {xs : List D} (hi : S[i]? = some (.lst xs)) (hj : S[j]? = some (.lst [])) (hx : ∀ x ∈ xs, okD 3 x) : W (eqD (.loc i) (.loc j) S) Q = Q (.bl (xs.isEmpty)) S := by
  obtain ⟨ps, e, l, k⟩ := ok_all (n := 3) (fun d hd => ok_py 3 d hd) xs hx
  rw [W_eqP (p := .list ps) (q := .list []) (by simp [pyS, pyD, locN, hi, e]) (by simp [pyS, pyD, locN, hj, pyAll]) (by
    unfold SeqAt.shaped
    simp only [PyData.canLay0, l, Bool.true_and, decide_eq_true_eq]
    show PyData.depthAll ps + 1 ≤ 64
    omega) rfl]
  have ee : xs.isEmpty = ps.isEmpty := by
    cases xs with
    | nil => have := e (fun _ => none); simp [pyAll] at this; subst this; rfl
    | cons x r =>
      cases ps with
      | nil =>
        have := e (fun _ => none)
        simp only [pyAll] at this
        split at this
        · cases this
        · cases this
      | cons _ _ => rfl
  rw [ee]
  cases ps <;> simp [PyData.eqv, PyData.eqvAll]
theorem W_emptyNe {S : Sto} {Q : D → Sto → Prop} {i j : Nat} {xs : List D} (hi : S[i]? = some (.lst xs)) (hj : S[j]? = some (.lst [])) (hx : ∀ x ∈ xs, okD 3 x) : W (neD (.loc i) (.loc j) S) Q = Q (.bl (!xs.isEmpty)) S := by
  obtain ⟨ps, e, l, k⟩ := ok_all (n := 3) (fun d hd => ok_py 3 d hd) xs hx
  rw [W_neP (p := .list ps) (q := .list []) (by simp [pyS, pyD, locN, hi, e]) (by simp [pyS, pyD, locN, hj, pyAll]) (by
    unfold SeqAt.shaped
    simp only [PyData.canLay0, l, Bool.true_and, decide_eq_true_eq]
    show PyData.depthAll ps + 1 ≤ 64
    omega) rfl]
  have ee : xs.isEmpty = ps.isEmpty := by
    cases xs with
    | nil => have := e (fun _ => none); simp [pyAll] at this; subst this; rfl
    | cons x r =>
      cases ps with
      | nil =>
        have := e (fun _ => none)
        simp only [pyAll] at this
        split at this
        · cases this
        · cases this
      | cons _ _ => rfl
  rw [ee]
  cases ps <;> simp [PyData.eqv, PyData.eqvAll]
theorem nil_py {xs : List D} (h : okD 5 (.tup xs)) : ∃ ps, (∀ f, pyD f (.tup xs) = some (.tuple ps)) ∧ SeqAt.shaped (.tuple ps) = true ∧ xs.isEmpty = ps.isEmpty := by
  obtain ⟨p, e, l, k⟩ := ok_py 5 _ h
  have e1 := e (fun _ => none)
  simp only [pyD] at e1
  cases e2 : pyAll (fun _ => none) xs with
  | none => rw [e2] at e1; cases e1
  | some ps =>
    rw [e2] at e1
    cases e1
    refine ⟨ps, e, ok_shaped (by decide) l k, ?_⟩
    cases xs with
    | nil => simp [pyAll] at e2; subst e2; rfl
    | cons x r =>
      cases ps with
      | nil =>
        simp only [pyAll] at e2
        split at e2
        · cases e2
        · cases e2
      | cons _ _ => rfl
theorem W_neNil {S : Sto} {Q : D → Sto → Prop} {xs : List D} (h : okD 5 (.tup xs)) : W (neD (.tup xs) (.tup []) S) Q = Q (.bl (!xs.isEmpty)) S := by
  obtain ⟨ps, e, sh, ee⟩ := nil_py h
  rw [W_neP (p := .tuple ps) (q := .tuple []) (e _) (by simp [pyS, pyD, pyAll]) sh rfl, ee]
  cases ps <;> simp [PyData.eqv, PyData.eqvAll]
theorem W_eqNil {S : Sto} {Q : D → Sto → Prop} {xs : List D} (h : okD 5 (.tup xs)) : W (eqD (.tup xs) (.tup []) S) Q = Q (.bl (xs.isEmpty)) S := by
  obtain ⟨ps, e, sh, ee⟩ := nil_py h
  rw [W_eqP (p := .tuple ps) (q := .tuple []) (e _) (by simp [pyS, pyD, pyAll]) sh rfl, ee]
  cases ps <;> simp [PyData.eqv, PyData.eqvAll]
theorem ok_mono {n m : Nat} {d : D} (h : okD n d) (hm : n ≤ m) : okD m d := by
  induction m with
  | zero => have : n = 0 := by omega
            subst this; exact h
  | succ m ih =>
    by_cases e : n = m + 1
    · subst e; exact h
    · exact ok_up (ih (by omega))
theorem same_pu : ∀ (n : Nat) (d : D), okD n d → n ≤ 60 → Pu (m__law_same n) [d, d] (.bl true)
  | 0, _, h, _ => h.elim
  | n + 1, d, h, hn => fun S => by
    cases d with
    | tup ds =>
      simp only [m__law_same, ↓W_sortSet, ↓W_var, ↓W_C, ↓W_bin, ↓W_un, ↓W_chain, ↓W_tru, ↓W_tst, ↓W_notT, ↓W_andT, ↓W_orT, ↓W_andV, ↓W_orV, ↓W_notV, ↓W_if, ↓W_nil, ↓W_cons, ↓W_tup, ↓W_lst, ↓W_call, ↓W_callK, ↓W_noPart, ↓W_part, ↓W_sl, ↓W_meth, ↓W_asg, ↓W_name, ↓W_gnil, ↓W_gcons, ↓W_gseq, ↓W_gsub, ↓W_expr, ↓W_ret, ↓W_retN, ↓W_sif, ↓W_next, ↓W_brk, ↓W_cont, ↓W_sbad, ↓W_seq, ↓W_par2, ↓W_par3, ↓W_for, ↓W_lc, ↓W_yes, ↓W_iseq, ↓W_ienum, ↓W_rng1, ↓W_rng2, ↓W_while, ↓W_fun, ↓W_subD, ↓W_addI, ↓W_addS, ↓W_addT, ↓W_mulI, ↓W_fdiv, ↓W_mod, ↓W_neg, ↓W_ord, ↓W_isi, ↓W_is, ↓W_isnt, ↓W_lenT, ↓W_lenN, ↓W_intI, ↓W_intB, ↓W_abs, ↓W_max2, ↓W_min2, ↓W_divmod, ↓W_tupleT, ↓W_tupleN, ↓W_listT, ↓W_eqI, ↓W_neI, ↓W_eqB, ↓W_neB, ↓W_ix0, ↓W_ix1, ↓W_ix2, ↓its_new, ↓its_tup, ↓lst_new, En.pick, List.filterMap_cons, List.filterMap_nil, tyN, tyM, isT, truD, En.isNon, startE, wipeE, List.map_cons, List.map_nil, List.length_cons, List.length_nil, List.cons_append, List.nil_append, List.replicate_succ, List.replicate_zero, List.getElem?_cons_succ, List.getElem?_cons_zero, List.set_cons_succ, List.set_cons_zero, Nat.reduceSub, Nat.reduceAdd, Nat.zero_add, Nat.reduceLeDiff, Nat.sub_self, Bool.not_true, Bool.not_false, Bool.true_and, Bool.and_true, Bool.false_and, Bool.and_false, Bool.or_true, Bool.true_or, Bool.false_or, Bool.or_false, Bool.false_eq_true, if_true, if_false, ite_true, ite_false, true_and, and_true, decide_true, decide_false, String.reduceBEq, beq_self_eq_true, bne_self_eq_false, Bool.or_self, Bool.and_self, reduceCtorEq, Option.some.injEq, Bool.decide_eq_true, decide_eq_true_eq]
      refine ⟨by have := h.1; omega, ?_⟩
      rw [show ((ds.length : Int)).toNat = ds.length from by simp, rng0]
      refine W_lcP (p := fun _ => false) (v := fun _ => .non) rfl (fun i hi S1 s => ?_) fun S' s => ?_
      · have hi := List.mem_range.mp hi
        simp only [↓W_sortSet, ↓W_var, ↓W_C, ↓W_bin, ↓W_un, ↓W_chain, ↓W_tru, ↓W_tst, ↓W_notT, ↓W_andT, ↓W_orT, ↓W_andV, ↓W_orV, ↓W_notV, ↓W_if, ↓W_nil, ↓W_cons, ↓W_tup, ↓W_lst, ↓W_call, ↓W_callK, ↓W_noPart, ↓W_part, ↓W_sl, ↓W_meth, ↓W_asg, ↓W_name, ↓W_gnil, ↓W_gcons, ↓W_gseq, ↓W_gsub, ↓W_expr, ↓W_ret, ↓W_retN, ↓W_sif, ↓W_next, ↓W_brk, ↓W_cont, ↓W_sbad, ↓W_seq, ↓W_par2, ↓W_par3, ↓W_for, ↓W_lc, ↓W_yes, ↓W_iseq, ↓W_ienum, ↓W_rng1, ↓W_rng2, ↓W_while, ↓W_fun, ↓W_subD, ↓W_addI, ↓W_addS, ↓W_addT, ↓W_mulI, ↓W_fdiv, ↓W_mod, ↓W_neg, ↓W_ord, ↓W_isi, ↓W_is, ↓W_isnt, ↓W_lenT, ↓W_lenN, ↓W_intI, ↓W_intB, ↓W_abs, ↓W_max2, ↓W_min2, ↓W_divmod, ↓W_tupleT, ↓W_tupleN, ↓W_listT, ↓W_eqI, ↓W_neI, ↓W_eqB, ↓W_neB, ↓W_ix0, ↓W_ix1, ↓W_ix2, ↓its_new, ↓its_tup, ↓lst_new, En.pick, List.filterMap_cons, List.filterMap_nil, tyN, tyM, isT, truD, En.isNon, startE, wipeE, List.map_cons, List.map_nil, List.length_cons, List.length_nil, List.cons_append, List.nil_append, List.replicate_succ, List.replicate_zero, List.getElem?_cons_succ, List.getElem?_cons_zero, List.set_cons_succ, List.set_cons_zero, Nat.reduceSub, Nat.reduceAdd, Nat.zero_add, Nat.reduceLeDiff, Nat.sub_self, Bool.not_true, Bool.not_false, Bool.true_and, Bool.and_true, Bool.false_and, Bool.and_false, Bool.or_true, Bool.true_or, Bool.false_or, Bool.or_false, Bool.false_eq_true, if_true, if_false, ite_true, ite_false, true_and, and_true, decide_true, decide_false, String.reduceBEq, beq_self_eq_true, bne_self_eq_false, Bool.or_self, Bool.and_self, reduceCtorEq, Option.some.injEq, Bool.decide_eq_true, decide_eq_true_eq]
        rw [W_ixN its_tup (List.getElem?_eq_getElem hi), W_ixN its_tup (List.getElem?_eq_getElem hi)]
        refine (same_pu n _ (h.2 _ (List.getElem_mem hi)) (by omega)).use fun S' s => ?_
        simp only [↓W_sortSet, ↓W_var, ↓W_C, ↓W_bin, ↓W_un, ↓W_chain, ↓W_tru, ↓W_tst, ↓W_notT, ↓W_andT, ↓W_orT, ↓W_andV, ↓W_orV, ↓W_notV, ↓W_if, ↓W_nil, ↓W_cons, ↓W_tup, ↓W_lst, ↓W_call, ↓W_callK, ↓W_noPart, ↓W_part, ↓W_sl, ↓W_meth, ↓W_asg, ↓W_name, ↓W_gnil, ↓W_gcons, ↓W_gseq, ↓W_gsub, ↓W_expr, ↓W_ret, ↓W_retN, ↓W_sif, ↓W_next, ↓W_brk, ↓W_cont, ↓W_sbad, ↓W_seq, ↓W_par2, ↓W_par3, ↓W_for, ↓W_lc, ↓W_yes, ↓W_iseq, ↓W_ienum, ↓W_rng1, ↓W_rng2, ↓W_while, ↓W_fun, ↓W_subD, ↓W_addI, ↓W_addS, ↓W_addT, ↓W_mulI, ↓W_fdiv, ↓W_mod, ↓W_neg, ↓W_ord, ↓W_isi, ↓W_is, ↓W_isnt, ↓W_lenT, ↓W_lenN, ↓W_intI, ↓W_intB, ↓W_abs, ↓W_max2, ↓W_min2, ↓W_divmod, ↓W_tupleT, ↓W_tupleN, ↓W_listT, ↓W_eqI, ↓W_neI, ↓W_eqB, ↓W_neB, ↓W_ix0, ↓W_ix1, ↓W_ix2, ↓its_new, ↓its_tup, ↓lst_new, En.pick, List.filterMap_cons, List.filterMap_nil, tyN, tyM, isT, truD, En.isNon, startE, wipeE, List.map_cons, List.map_nil, List.length_cons, List.length_nil, List.cons_append, List.nil_append, List.replicate_succ, List.replicate_zero, List.getElem?_cons_succ, List.getElem?_cons_zero, List.set_cons_succ, List.set_cons_zero, Nat.reduceSub, Nat.reduceAdd, Nat.zero_add, Nat.reduceLeDiff, Nat.sub_self, Bool.not_true, Bool.not_false, Bool.true_and, Bool.and_true, Bool.false_and, Bool.and_false, Bool.or_true, Bool.true_or, Bool.false_or, Bool.or_false, Bool.false_eq_true, if_true, if_false, ite_true, ite_false, true_and, and_true, decide_true, decide_false, String.reduceBEq, beq_self_eq_true, bne_self_eq_false, Bool.or_self, Bool.and_self, reduceCtorEq, Option.some.injEq, Bool.decide_eq_true, decide_eq_true_eq]; exact s
      · rw [List.filter_eq_nil_iff.mpr (fun _ _ => Bool.false_ne_true), List.map_nil]
        refine ⟨Nat.zero_le _, Nat.zero_le _, ?_⟩
        rw [W_emptyEq (xs := []) (Sub.app _ _ at_new) at_new (by intro x hx; cases hx)]
        exact ⟨rfl, s.new.new⟩
    | int i => simp only [m__law_same, ↓W_sortSet, ↓W_var, ↓W_C, ↓W_bin, ↓W_un, ↓W_chain, ↓W_tru, ↓W_tst, ↓W_notT, ↓W_andT, ↓W_orT, ↓W_andV, ↓W_orV, ↓W_notV, ↓W_if, ↓W_nil, ↓W_cons, ↓W_tup, ↓W_lst, ↓W_call, ↓W_callK, ↓W_noPart, ↓W_part, ↓W_sl, ↓W_meth, ↓W_asg, ↓W_name, ↓W_gnil, ↓W_gcons, ↓W_gseq, ↓W_gsub, ↓W_expr, ↓W_ret, ↓W_retN, ↓W_sif, ↓W_next, ↓W_brk, ↓W_cont, ↓W_sbad, ↓W_seq, ↓W_par2, ↓W_par3, ↓W_for, ↓W_lc, ↓W_yes, ↓W_iseq, ↓W_ienum, ↓W_rng1, ↓W_rng2, ↓W_while, ↓W_fun, ↓W_subD, ↓W_addI, ↓W_addS, ↓W_addT, ↓W_mulI, ↓W_fdiv, ↓W_mod, ↓W_neg, ↓W_ord, ↓W_isi, ↓W_is, ↓W_isnt, ↓W_lenT, ↓W_lenN, ↓W_intI, ↓W_intB, ↓W_abs, ↓W_max2, ↓W_min2, ↓W_divmod, ↓W_tupleT, ↓W_tupleN, ↓W_listT, ↓W_eqI, ↓W_neI, ↓W_eqB, ↓W_neB, ↓W_ix0, ↓W_ix1, ↓W_ix2, ↓its_new, ↓its_tup, ↓lst_new, En.pick, List.filterMap_cons, List.filterMap_nil, tyN, tyM, isT, truD, En.isNon, startE, wipeE, List.map_cons, List.map_nil, List.length_cons, List.length_nil, List.cons_append, List.nil_append, List.replicate_succ, List.replicate_zero, List.getElem?_cons_succ, List.getElem?_cons_zero, List.set_cons_succ, List.set_cons_zero, Nat.reduceSub, Nat.reduceAdd, Nat.zero_add, Nat.reduceLeDiff, Nat.sub_self, Bool.not_true, Bool.not_false, Bool.true_and, Bool.and_true, Bool.false_and, Bool.and_false, Bool.or_true, Bool.true_or, Bool.false_or, Bool.or_false, Bool.false_eq_true, if_true, if_false, ite_true, ite_false, true_and, and_true, decide_true, decide_false, String.reduceBEq, beq_self_eq_true, bne_self_eq_false, Bool.or_self, Bool.and_self, reduceCtorEq, Option.some.injEq, Bool.decide_eq_true, decide_eq_true_eq]; exact Sub.refl
    | bl i => simp only [m__law_same, ↓W_sortSet, ↓W_var, ↓W_C, ↓W_bin, ↓W_un, ↓W_chain, ↓W_tru, ↓W_tst, ↓W_notT, ↓W_andT, ↓W_orT, ↓W_andV, ↓W_orV, ↓W_notV, ↓W_if, ↓W_nil, ↓W_cons, ↓W_tup, ↓W_lst, ↓W_call, ↓W_callK, ↓W_noPart, ↓W_part, ↓W_sl, ↓W_meth, ↓W_asg, ↓W_name, ↓W_gnil, ↓W_gcons, ↓W_gseq, ↓W_gsub, ↓W_expr, ↓W_ret, ↓W_retN, ↓W_sif, ↓W_next, ↓W_brk, ↓W_cont, ↓W_sbad, ↓W_seq, ↓W_par2, ↓W_par3, ↓W_for, ↓W_lc, ↓W_yes, ↓W_iseq, ↓W_ienum, ↓W_rng1, ↓W_rng2, ↓W_while, ↓W_fun, ↓W_subD, ↓W_addI, ↓W_addS, ↓W_addT, ↓W_mulI, ↓W_fdiv, ↓W_mod, ↓W_neg, ↓W_ord, ↓W_isi, ↓W_is, ↓W_isnt, ↓W_lenT, ↓W_lenN, ↓W_intI, ↓W_intB, ↓W_abs, ↓W_max2, ↓W_min2, ↓W_divmod, ↓W_tupleT, ↓W_tupleN, ↓W_listT, ↓W_eqI, ↓W_neI, ↓W_eqB, ↓W_neB, ↓W_ix0, ↓W_ix1, ↓W_ix2, ↓its_new, ↓its_tup, ↓lst_new, En.pick, List.filterMap_cons, List.filterMap_nil, tyN, tyM, isT, truD, En.isNon, startE, wipeE, List.map_cons, List.map_nil, List.length_cons, List.length_nil, List.cons_append, List.nil_append, List.replicate_succ, List.replicate_zero, List.getElem?_cons_succ, List.getElem?_cons_zero, List.set_cons_succ, List.set_cons_zero, Nat.reduceSub, Nat.reduceAdd, Nat.zero_add, Nat.reduceLeDiff, Nat.sub_self, Bool.not_true, Bool.not_false, Bool.true_and, Bool.and_true, Bool.false_and, Bool.and_false, Bool.or_true, Bool.true_or, Bool.false_or, Bool.or_false, Bool.false_eq_true, if_true, if_false, ite_true, ite_false, true_and, and_true, decide_true, decide_false, String.reduceBEq, beq_self_eq_true, bne_self_eq_false, Bool.or_self, Bool.and_self, reduceCtorEq, Option.some.injEq, Bool.decide_eq_true, decide_eq_true_eq]; exact Sub.refl
    | non => simp only [m__law_same, ↓W_sortSet, ↓W_var, ↓W_C, ↓W_bin, ↓W_un, ↓W_chain, ↓W_tru, ↓W_tst, ↓W_notT, ↓W_andT, ↓W_orT, ↓W_andV, ↓W_orV, ↓W_notV, ↓W_if, ↓W_nil, ↓W_cons, ↓W_tup, ↓W_lst, ↓W_call, ↓W_callK, ↓W_noPart, ↓W_part, ↓W_sl, ↓W_meth, ↓W_asg, ↓W_name, ↓W_gnil, ↓W_gcons, ↓W_gseq, ↓W_gsub, ↓W_expr, ↓W_ret, ↓W_retN, ↓W_sif, ↓W_next, ↓W_brk, ↓W_cont, ↓W_sbad, ↓W_seq, ↓W_par2, ↓W_par3, ↓W_for, ↓W_lc, ↓W_yes, ↓W_iseq, ↓W_ienum, ↓W_rng1, ↓W_rng2, ↓W_while, ↓W_fun, ↓W_subD, ↓W_addI, ↓W_addS, ↓W_addT, ↓W_mulI, ↓W_fdiv, ↓W_mod, ↓W_neg, ↓W_ord, ↓W_isi, ↓W_is, ↓W_isnt, ↓W_lenT, ↓W_lenN, ↓W_intI, ↓W_intB, ↓W_abs, ↓W_max2, ↓W_min2, ↓W_divmod, ↓W_tupleT, ↓W_tupleN, ↓W_listT, ↓W_eqI, ↓W_neI, ↓W_eqB, ↓W_neB, ↓W_ix0, ↓W_ix1, ↓W_ix2, ↓its_new, ↓its_tup, ↓lst_new, En.pick, List.filterMap_cons, List.filterMap_nil, tyN, tyM, isT, truD, En.isNon, startE, wipeE, List.map_cons, List.map_nil, List.length_cons, List.length_nil, List.cons_append, List.nil_append, List.replicate_succ, List.replicate_zero, List.getElem?_cons_succ, List.getElem?_cons_zero, List.set_cons_succ, List.set_cons_zero, Nat.reduceSub, Nat.reduceAdd, Nat.zero_add, Nat.reduceLeDiff, Nat.sub_self, Bool.not_true, Bool.not_false, Bool.true_and, Bool.and_true, Bool.false_and, Bool.and_false, Bool.or_true, Bool.true_or, Bool.false_or, Bool.or_false, Bool.false_eq_true, if_true, if_false, ite_true, ite_false, true_and, and_true, decide_true, decide_false, String.reduceBEq, beq_self_eq_true, bne_self_eq_false, Bool.or_self, Bool.and_self, reduceCtorEq, Option.some.injEq, Bool.decide_eq_true, decide_eq_true_eq]; exact Sub.refl
    | str x => simp only [m__law_same, ↓W_sortSet, ↓W_var, ↓W_C, ↓W_bin, ↓W_un, ↓W_chain, ↓W_tru, ↓W_tst, ↓W_notT, ↓W_andT, ↓W_orT, ↓W_andV, ↓W_orV, ↓W_notV, ↓W_if, ↓W_nil, ↓W_cons, ↓W_tup, ↓W_lst, ↓W_call, ↓W_callK, ↓W_noPart, ↓W_part, ↓W_sl, ↓W_meth, ↓W_asg, ↓W_name, ↓W_gnil, ↓W_gcons, ↓W_gseq, ↓W_gsub, ↓W_expr, ↓W_ret, ↓W_retN, ↓W_sif, ↓W_next, ↓W_brk, ↓W_cont, ↓W_sbad, ↓W_seq, ↓W_par2, ↓W_par3, ↓W_for, ↓W_lc, ↓W_yes, ↓W_iseq, ↓W_ienum, ↓W_rng1, ↓W_rng2, ↓W_while, ↓W_fun, ↓W_subD, ↓W_addI, ↓W_addS, ↓W_addT, ↓W_mulI, ↓W_fdiv, ↓W_mod, ↓W_neg, ↓W_ord, ↓W_isi, ↓W_is, ↓W_isnt, ↓W_lenT, ↓W_lenN, ↓W_intI, ↓W_intB, ↓W_abs, ↓W_max2, ↓W_min2, ↓W_divmod, ↓W_tupleT, ↓W_tupleN, ↓W_listT, ↓W_eqI, ↓W_neI, ↓W_eqB, ↓W_neB, ↓W_ix0, ↓W_ix1, ↓W_ix2, ↓its_new, ↓its_tup, ↓lst_new, En.pick, List.filterMap_cons, List.filterMap_nil, tyN, tyM, isT, truD, En.isNon, startE, wipeE, List.map_cons, List.map_nil, List.length_cons, List.length_nil, List.cons_append, List.nil_append, List.replicate_succ, List.replicate_zero, List.getElem?_cons_succ, List.getElem?_cons_zero, List.set_cons_succ, List.set_cons_zero, Nat.reduceSub, Nat.reduceAdd, Nat.zero_add, Nat.reduceLeDiff, Nat.sub_self, Bool.not_true, Bool.not_false, Bool.true_and, Bool.and_true, Bool.false_and, Bool.and_false, Bool.or_true, Bool.true_or, Bool.false_or, Bool.or_false, Bool.false_eq_true, if_true, if_false, ite_true, ite_false, true_and, and_true, decide_true, decide_false, String.reduceBEq, beq_self_eq_true, bne_self_eq_false, Bool.or_self, Bool.and_self, reduceCtorEq, Option.some.injEq, Bool.decide_eq_true, decide_eq_true_eq]; rw [W_eqSame hn h]; try simp only [↓W_sortSet, ↓W_var, ↓W_C, ↓W_bin, ↓W_un, ↓W_chain, ↓W_tru, ↓W_tst, ↓W_notT, ↓W_andT, ↓W_orT, ↓W_andV, ↓W_orV, ↓W_notV, ↓W_if, ↓W_nil, ↓W_cons, ↓W_tup, ↓W_lst, ↓W_call, ↓W_callK, ↓W_noPart, ↓W_part, ↓W_sl, ↓W_meth, ↓W_asg, ↓W_name, ↓W_gnil, ↓W_gcons, ↓W_gseq, ↓W_gsub, ↓W_expr, ↓W_ret, ↓W_retN, ↓W_sif, ↓W_next, ↓W_brk, ↓W_cont, ↓W_sbad, ↓W_seq, ↓W_par2, ↓W_par3, ↓W_for, ↓W_lc, ↓W_yes, ↓W_iseq, ↓W_ienum, ↓W_rng1, ↓W_rng2, ↓W_while, ↓W_fun, ↓W_subD, ↓W_addI, ↓W_addS, ↓W_addT, ↓W_mulI, ↓W_fdiv, ↓W_mod, ↓W_neg, ↓W_ord, ↓W_isi, ↓W_is, ↓W_isnt, ↓W_lenT, ↓W_lenN, ↓W_intI, ↓W_intB, ↓W_abs, ↓W_max2, ↓W_min2, ↓W_divmod, ↓W_tupleT, ↓W_tupleN, ↓W_listT, ↓W_eqI, ↓W_neI, ↓W_eqB, ↓W_neB, ↓W_ix0, ↓W_ix1, ↓W_ix2, ↓its_new, ↓its_tup, ↓lst_new, En.pick, List.filterMap_cons, List.filterMap_nil, tyN, tyM, isT, truD, En.isNon, startE, wipeE, List.map_cons, List.map_nil, List.length_cons, List.length_nil, List.cons_append, List.nil_append, List.replicate_succ, List.replicate_zero, List.getElem?_cons_succ, List.getElem?_cons_zero, List.set_cons_succ, List.set_cons_zero, Nat.reduceSub, Nat.reduceAdd, Nat.zero_add, Nat.reduceLeDiff, Nat.sub_self, Bool.not_true, Bool.not_false, Bool.true_and, Bool.and_true, Bool.false_and, Bool.and_false, Bool.or_true, Bool.true_or, Bool.false_or, Bool.or_false, Bool.false_eq_true, if_true, if_false, ite_true, ite_false, true_and, and_true, decide_true, decide_false, String.reduceBEq, beq_self_eq_true, bne_self_eq_false, Bool.or_self, Bool.and_self, reduceCtorEq, Option.some.injEq, Bool.decide_eq_true, decide_eq_true_eq]; exact Sub.refl
    | rol _ => exact h.elim
    | loc _ => exact h.elim
theorem same_use {n : Nat} {d : D} {S : Sto} {Q : D → Sto → Prop} (h : okD n d) (hn : n ≤ 60) (k : ∀ S', Sub S S' → Q (.bl true) S') : W (m__law_same n [d, d] S) Q := (same_pu n d h hn).use k
/-! ### the bowl -/
theorem log2_le {n k : Nat} (h : n < 2 ^ k) (hk : 0 < k) : n.log2 < k := by
  by_cases h0 : n = 0
  · subst h0; exact hk
  · exact (Nat.log2_lt h0).mpr h
theorem mul_ok {i j : Int} (hi : i.natAbs ≤ 10 ^ 70) (hj : j.natAbs ≤ 10 ^ 70) : i.natAbs.log2 + j.natAbs.log2 < 1000000 := by
  have h1 := log2_le (n := i.natAbs) (k := 250) (Nat.lt_of_le_of_lt hi (by decide)) (by decide)
  have h2 := log2_le (n := j.natAbs) (k := 250) (Nat.lt_of_le_of_lt hj (by decide)) (by decide)
  omega
theorem mul_okI {i j : Int} (hi : -(10 ^ 70) ≤ i ∧ i ≤ 10 ^ 70) (hj : -(10 ^ 70) ≤ j ∧ j ≤ 10 ^ 70) : i.natAbs.log2 + j.natAbs.log2 < 1000000 := mul_ok (by omega) (by omega)
theorem div_ok {i j : Int} (h : j.natAbs < 2 ^ 60) : Builtin.divisionGoesByPylong i j = false := by
  have := log2_le h (by decide)
  unfold Builtin.divisionGoesByPylong
  simp only
  have : ¬ ((if (j == 0) = true then 0 else j.natAbs.log2 / 30 + 1) > 300) := by
    split <;> omega
  rw [decide_eq_false this]; rfl
theorem fdiv_ok {j : Int} (h0 : 0 < j) (h : j.natAbs < 2 ^ 60) : 0 < j ∧ j.natAbs.log2 < 9000 := by
  have := log2_le h (by decide)
  exact ⟨h0, by omega⟩
section
variable {b : Nat} {S : Sto} {x y d : D} {Q : D → Sto → Prop} {Qu : Unit → Sto → Prop}
theorem W_ixL0 (h : S[b]? = some (.lst [x, y])) : W (ixD (.loc b) (.int 0) S) Q = Q x S := W_ixN (i := 0) (its_at h) rfl
theorem W_ixL1 (h : S[b]? = some (.lst [x, y])) : W (ixD (.loc b) (.int 1) S) Q = Q y S := W_ixN (i := 1) (its_at h) rfl
theorem W_setL0 (h : S[b]? = some (.lst [x, y])) : W (setD (.loc b) (.int 0) d S) Qu = Qu () (S.set b (.lst [d, y])) := W_set (k := 0) h (by simp)
theorem W_setL1 (h : S[b]? = some (.lst [x, y])) : W (setD (.loc b) (.int 1) d S) Qu = Qu () (S.set b (.lst [x, d])) := W_set (k := 1) h (by simp)
end
abbrev natD (i : Nat) : D := .int (i : Int)
/-- a bowl: what is far, what is stirred -/
def Bowl (b : Nat) (S : Sto) : Prop := ∃ far st : Int, S[b]? = some (.lst [.int far, .int st]) ∧ 0 ≤ far ∧ far ≤ 10 ^ 60 ∧ 0 ≤ st ∧ st < 2147483423
theorem Bowl.sub {b : Nat} {S S' : Sto} (h : Bowl b S) (s : Sub S S') : Bowl b S' :=
  let ⟨f, s', e, r⟩ := h
  ⟨f, s', s _ _ e, r⟩
theorem Bowl.new {b : Nat} {S : Sto} {x : C} (h : Bowl b S) : Bowl b (S ++ [x]) := h.sub Sub.app
theorem Bowl.lt {b : Nat} {S : Sto} (h : Bowl b S) : b < S.length := let ⟨_, _, e, _⟩ := h; (List.getElem?_eq_some_iff.mp e).1
theorem draw_spec {b : Nat} {n : Nat} {i : Int} {S : Sto} {Q : D → Sto → Prop} (hw : Bowl b S) (hi : i = (n : Int)) (h0 : 0 < n) (hn : n ≤ 1000000000)
    (k : ∀ (r : Nat) S', r < n → SubB b S S' → Bowl b S' → Q (natD r) S') : W (m__law_draw [.loc b, .int i] S) Q := by
  subst hi
  obtain ⟨far, st, e, h1, h2, h3, h4⟩ := hw
  simp only [m__law_draw, ↓W_sortSet, ↓W_var, ↓W_C, ↓W_bin, ↓W_un, ↓W_chain, ↓W_tru, ↓W_tst, ↓W_notT, ↓W_andT, ↓W_orT, ↓W_andV, ↓W_orV, ↓W_notV, ↓W_if, ↓W_nil, ↓W_cons, ↓W_tup, ↓W_lst, ↓W_call, ↓W_callK, ↓W_noPart, ↓W_part, ↓W_sl, ↓W_meth, ↓W_asg, ↓W_name, ↓W_gnil, ↓W_gcons, ↓W_gseq, ↓W_gsub, ↓W_expr, ↓W_ret, ↓W_retN, ↓W_sif, ↓W_next, ↓W_brk, ↓W_cont, ↓W_sbad, ↓W_seq, ↓W_par2, ↓W_par3, ↓W_for, ↓W_lc, ↓W_yes, ↓W_iseq, ↓W_ienum, ↓W_rng1, ↓W_rng2, ↓W_while, ↓W_fun, ↓W_subD, ↓W_addI, ↓W_addS, ↓W_addT, ↓W_mulI, ↓W_fdiv, ↓W_mod, ↓W_neg, ↓W_ord, ↓W_isi, ↓W_is, ↓W_isnt, ↓W_lenT, ↓W_lenN, ↓W_intI, ↓W_intB, ↓W_abs, ↓W_max2, ↓W_min2, ↓W_divmod, ↓W_tupleT, ↓W_tupleN, ↓W_listT, ↓W_eqI, ↓W_neI, ↓W_eqB, ↓W_neB, ↓W_ix0, ↓W_ix1, ↓W_ix2, ↓its_new, ↓its_tup, ↓lst_new, En.pick, List.filterMap_cons, List.filterMap_nil, tyN, tyM, isT, truD, En.isNon, startE, wipeE, List.map_cons, List.map_nil, List.length_cons, List.length_nil, List.cons_append, List.nil_append, List.replicate_succ, List.replicate_zero, List.getElem?_cons_succ, List.getElem?_cons_zero, List.set_cons_succ, List.set_cons_zero, Nat.reduceSub, Nat.reduceAdd, Nat.zero_add, Nat.reduceLeDiff, Nat.sub_self, Bool.not_true, Bool.not_false, Bool.true_and, Bool.and_true, Bool.false_and, Bool.and_false, Bool.or_true, Bool.true_or, Bool.false_or, Bool.or_false, Bool.false_eq_true, if_true, if_false, ite_true, ite_false, true_and, and_true, decide_true, decide_false, String.reduceBEq, beq_self_eq_true, bne_self_eq_false, Bool.or_self, Bool.and_self, reduceCtorEq, Option.some.injEq, Bool.decide_eq_true, decide_eq_true_eq]
  rw [W_ixL0 e]
  have hn0 : (0 : Int) < (n : Int) := by omega
  by_cases hf : 0 < far
  · simp only [hf, ↓W_sortSet, ↓W_var, ↓W_C, ↓W_bin, ↓W_un, ↓W_chain, ↓W_tru, ↓W_tst, ↓W_notT, ↓W_andT, ↓W_orT, ↓W_andV, ↓W_orV, ↓W_notV, ↓W_if, ↓W_nil, ↓W_cons, ↓W_tup, ↓W_lst, ↓W_call, ↓W_callK, ↓W_noPart, ↓W_part, ↓W_sl, ↓W_meth, ↓W_asg, ↓W_name, ↓W_gnil, ↓W_gcons, ↓W_gseq, ↓W_gsub, ↓W_expr, ↓W_ret, ↓W_retN, ↓W_sif, ↓W_next, ↓W_brk, ↓W_cont, ↓W_sbad, ↓W_seq, ↓W_par2, ↓W_par3, ↓W_for, ↓W_lc, ↓W_yes, ↓W_iseq, ↓W_ienum, ↓W_rng1, ↓W_rng2, ↓W_while, ↓W_fun, ↓W_subD, ↓W_addI, ↓W_addS, ↓W_addT, ↓W_mulI, ↓W_fdiv, ↓W_mod, ↓W_neg, ↓W_ord, ↓W_isi, ↓W_is, ↓W_isnt, ↓W_lenT, ↓W_lenN, ↓W_intI, ↓W_intB, ↓W_abs, ↓W_max2, ↓W_min2, ↓W_divmod, ↓W_tupleT, ↓W_tupleN, ↓W_listT, ↓W_eqI, ↓W_neI, ↓W_eqB, ↓W_neB, ↓W_ix0, ↓W_ix1, ↓W_ix2, ↓its_new, ↓its_tup, ↓lst_new, En.pick, List.filterMap_cons, List.filterMap_nil, tyN, tyM, isT, truD, En.isNon, startE, wipeE, List.map_cons, List.map_nil, List.length_cons, List.length_nil, List.cons_append, List.nil_append, List.replicate_succ, List.replicate_zero, List.getElem?_cons_succ, List.getElem?_cons_zero, List.set_cons_succ, List.set_cons_zero, Nat.reduceSub, Nat.reduceAdd, Nat.zero_add, Nat.reduceLeDiff, Nat.sub_self, Bool.not_true, Bool.not_false, Bool.true_and, Bool.and_true, Bool.false_and, Bool.and_false, Bool.or_true, Bool.true_or, Bool.false_or, Bool.or_false, Bool.false_eq_true, if_true, if_false, ite_true, ite_false, true_and, and_true, decide_true, decide_false, String.reduceBEq, beq_self_eq_true, bne_self_eq_false, Bool.or_self, Bool.and_self, reduceCtorEq, Option.some.injEq, Bool.decide_eq_true, decide_eq_true_eq]
    rw [W_ixL0 e]
    try simp only [↓W_sortSet, ↓W_var, ↓W_C, ↓W_bin, ↓W_un, ↓W_chain, ↓W_tru, ↓W_tst, ↓W_notT, ↓W_andT, ↓W_orT, ↓W_andV, ↓W_orV, ↓W_notV, ↓W_if, ↓W_nil, ↓W_cons, ↓W_tup, ↓W_lst, ↓W_call, ↓W_callK, ↓W_noPart, ↓W_part, ↓W_sl, ↓W_meth, ↓W_asg, ↓W_name, ↓W_gnil, ↓W_gcons, ↓W_gseq, ↓W_gsub, ↓W_expr, ↓W_ret, ↓W_retN, ↓W_sif, ↓W_next, ↓W_brk, ↓W_cont, ↓W_sbad, ↓W_seq, ↓W_par2, ↓W_par3, ↓W_for, ↓W_lc, ↓W_yes, ↓W_iseq, ↓W_ienum, ↓W_rng1, ↓W_rng2, ↓W_while, ↓W_fun, ↓W_subD, ↓W_addI, ↓W_addS, ↓W_addT, ↓W_mulI, ↓W_fdiv, ↓W_mod, ↓W_neg, ↓W_ord, ↓W_isi, ↓W_is, ↓W_isnt, ↓W_lenT, ↓W_lenN, ↓W_intI, ↓W_intB, ↓W_abs, ↓W_max2, ↓W_min2, ↓W_divmod, ↓W_tupleT, ↓W_tupleN, ↓W_listT, ↓W_eqI, ↓W_neI, ↓W_eqB, ↓W_neB, ↓W_ix0, ↓W_ix1, ↓W_ix2, ↓its_new, ↓its_tup, ↓lst_new, En.pick, List.filterMap_cons, List.filterMap_nil, tyN, tyM, isT, truD, En.isNon, startE, wipeE, List.map_cons, List.map_nil, List.length_cons, List.length_nil, List.cons_append, List.nil_append, List.replicate_succ, List.replicate_zero, List.getElem?_cons_succ, List.getElem?_cons_zero, List.set_cons_succ, List.set_cons_zero, Nat.reduceSub, Nat.reduceAdd, Nat.zero_add, Nat.reduceLeDiff, Nat.sub_self, Bool.not_true, Bool.not_false, Bool.true_and, Bool.and_true, Bool.false_and, Bool.and_false, Bool.or_true, Bool.true_or, Bool.false_or, Bool.or_false, Bool.false_eq_true, if_true, if_false, ite_true, ite_false, true_and, and_true, decide_true, decide_false, String.reduceBEq, beq_self_eq_true, bne_self_eq_false, Bool.or_self, Bool.and_self, reduceCtorEq, Option.some.injEq, Bool.decide_eq_true, decide_eq_true_eq]
    refine ⟨⟨hn0, div_ok (by omega)⟩, ?_⟩
    rw [W_setL0 e]
    try simp only [↓W_sortSet, ↓W_var, ↓W_C, ↓W_bin, ↓W_un, ↓W_chain, ↓W_tru, ↓W_tst, ↓W_notT, ↓W_andT, ↓W_orT, ↓W_andV, ↓W_orV, ↓W_notV, ↓W_if, ↓W_nil, ↓W_cons, ↓W_tup, ↓W_lst, ↓W_call, ↓W_callK, ↓W_noPart, ↓W_part, ↓W_sl, ↓W_meth, ↓W_asg, ↓W_name, ↓W_gnil, ↓W_gcons, ↓W_gseq, ↓W_gsub, ↓W_expr, ↓W_ret, ↓W_retN, ↓W_sif, ↓W_next, ↓W_brk, ↓W_cont, ↓W_sbad, ↓W_seq, ↓W_par2, ↓W_par3, ↓W_for, ↓W_lc, ↓W_yes, ↓W_iseq, ↓W_ienum, ↓W_rng1, ↓W_rng2, ↓W_while, ↓W_fun, ↓W_subD, ↓W_addI, ↓W_addS, ↓W_addT, ↓W_mulI, ↓W_fdiv, ↓W_mod, ↓W_neg, ↓W_ord, ↓W_isi, ↓W_is, ↓W_isnt, ↓W_lenT, ↓W_lenN, ↓W_intI, ↓W_intB, ↓W_abs, ↓W_max2, ↓W_min2, ↓W_divmod, ↓W_tupleT, ↓W_tupleN, ↓W_listT, ↓W_eqI, ↓W_neI, ↓W_eqB, ↓W_neB, ↓W_ix0, ↓W_ix1, ↓W_ix2, ↓its_new, ↓its_tup, ↓lst_new, En.pick, List.filterMap_cons, List.filterMap_nil, tyN, tyM, isT, truD, En.isNon, startE, wipeE, List.map_cons, List.map_nil, List.length_cons, List.length_nil, List.cons_append, List.nil_append, List.replicate_succ, List.replicate_zero, List.getElem?_cons_succ, List.getElem?_cons_zero, List.set_cons_succ, List.set_cons_zero, Nat.reduceSub, Nat.reduceAdd, Nat.zero_add, Nat.reduceLeDiff, Nat.sub_self, Bool.not_true, Bool.not_false, Bool.true_and, Bool.and_true, Bool.false_and, Bool.and_false, Bool.or_true, Bool.true_or, Bool.false_or, Bool.or_false, Bool.false_eq_true, if_true, if_false, ite_true, ite_false, true_and, and_true, decide_true, decide_false, String.reduceBEq, beq_self_eq_true, bne_self_eq_false, Bool.or_self, Bool.and_self, reduceCtorEq, Option.some.injEq, Bool.decide_eq_true, decide_eq_true_eq]
    have hr := Int.emod_nonneg far (show (n : Int) ≠ 0 by omega)
    have hr2 := Int.emod_lt_of_pos far hn0
    have := k (far % n).toNat (S.set b (.lst [.int (far / n), .int st])) (by omega) SubB.set ⟨far / n, st, at_set e, Int.ediv_nonneg (by omega) (by omega), Int.le_trans (Int.ediv_le_self _ (by omega)) h2, h3, h4⟩
    rwa [show natD (far % n).toNat = .int (far % n) from by unfold natD; rw [Int.toNat_of_nonneg hr]] at this
  · simp only [hf, ↓W_sortSet, ↓W_var, ↓W_C, ↓W_bin, ↓W_un, ↓W_chain, ↓W_tru, ↓W_tst, ↓W_notT, ↓W_andT, ↓W_orT, ↓W_andV, ↓W_orV, ↓W_notV, ↓W_if, ↓W_nil, ↓W_cons, ↓W_tup, ↓W_lst, ↓W_call, ↓W_callK, ↓W_noPart, ↓W_part, ↓W_sl, ↓W_meth, ↓W_asg, ↓W_name, ↓W_gnil, ↓W_gcons, ↓W_gseq, ↓W_gsub, ↓W_expr, ↓W_ret, ↓W_retN, ↓W_sif, ↓W_next, ↓W_brk, ↓W_cont, ↓W_sbad, ↓W_seq, ↓W_par2, ↓W_par3, ↓W_for, ↓W_lc, ↓W_yes, ↓W_iseq, ↓W_ienum, ↓W_rng1, ↓W_rng2, ↓W_while, ↓W_fun, ↓W_subD, ↓W_addI, ↓W_addS, ↓W_addT, ↓W_mulI, ↓W_fdiv, ↓W_mod, ↓W_neg, ↓W_ord, ↓W_isi, ↓W_is, ↓W_isnt, ↓W_lenT, ↓W_lenN, ↓W_intI, ↓W_intB, ↓W_abs, ↓W_max2, ↓W_min2, ↓W_divmod, ↓W_tupleT, ↓W_tupleN, ↓W_listT, ↓W_eqI, ↓W_neI, ↓W_eqB, ↓W_neB, ↓W_ix0, ↓W_ix1, ↓W_ix2, ↓its_new, ↓its_tup, ↓lst_new, En.pick, List.filterMap_cons, List.filterMap_nil, tyN, tyM, isT, truD, En.isNon, startE, wipeE, List.map_cons, List.map_nil, List.length_cons, List.length_nil, List.cons_append, List.nil_append, List.replicate_succ, List.replicate_zero, List.getElem?_cons_succ, List.getElem?_cons_zero, List.set_cons_succ, List.set_cons_zero, Nat.reduceSub, Nat.reduceAdd, Nat.zero_add, Nat.reduceLeDiff, Nat.sub_self, Bool.not_true, Bool.not_false, Bool.true_and, Bool.and_true, Bool.false_and, Bool.and_false, Bool.or_true, Bool.true_or, Bool.false_or, Bool.or_false, Bool.false_eq_true, if_true, if_false, ite_true, ite_false, true_and, and_true, decide_true, decide_false, String.reduceBEq, beq_self_eq_true, bne_self_eq_false, Bool.or_self, Bool.and_self, reduceCtorEq, Option.some.injEq, Bool.decide_eq_true, decide_eq_true_eq]
    rw [W_ixL1 e]
    try simp only [↓W_sortSet, ↓W_var, ↓W_C, ↓W_bin, ↓W_un, ↓W_chain, ↓W_tru, ↓W_tst, ↓W_notT, ↓W_andT, ↓W_orT, ↓W_andV, ↓W_orV, ↓W_notV, ↓W_if, ↓W_nil, ↓W_cons, ↓W_tup, ↓W_lst, ↓W_call, ↓W_callK, ↓W_noPart, ↓W_part, ↓W_sl, ↓W_meth, ↓W_asg, ↓W_name, ↓W_gnil, ↓W_gcons, ↓W_gseq, ↓W_gsub, ↓W_expr, ↓W_ret, ↓W_retN, ↓W_sif, ↓W_next, ↓W_brk, ↓W_cont, ↓W_sbad, ↓W_seq, ↓W_par2, ↓W_par3, ↓W_for, ↓W_lc, ↓W_yes, ↓W_iseq, ↓W_ienum, ↓W_rng1, ↓W_rng2, ↓W_while, ↓W_fun, ↓W_subD, ↓W_addI, ↓W_addS, ↓W_addT, ↓W_mulI, ↓W_fdiv, ↓W_mod, ↓W_neg, ↓W_ord, ↓W_isi, ↓W_is, ↓W_isnt, ↓W_lenT, ↓W_lenN, ↓W_intI, ↓W_intB, ↓W_abs, ↓W_max2, ↓W_min2, ↓W_divmod, ↓W_tupleT, ↓W_tupleN, ↓W_listT, ↓W_eqI, ↓W_neI, ↓W_eqB, ↓W_neB, ↓W_ix0, ↓W_ix1, ↓W_ix2, ↓its_new, ↓its_tup, ↓lst_new, En.pick, List.filterMap_cons, List.filterMap_nil, tyN, tyM, isT, truD, En.isNon, startE, wipeE, List.map_cons, List.map_nil, List.length_cons, List.length_nil, List.cons_append, List.nil_append, List.replicate_succ, List.replicate_zero, List.getElem?_cons_succ, List.getElem?_cons_zero, List.set_cons_succ, List.set_cons_zero, Nat.reduceSub, Nat.reduceAdd, Nat.zero_add, Nat.reduceLeDiff, Nat.sub_self, Bool.not_true, Bool.not_false, Bool.true_and, Bool.and_true, Bool.false_and, Bool.and_false, Bool.or_true, Bool.true_or, Bool.false_or, Bool.or_false, Bool.false_eq_true, if_true, if_false, ite_true, ite_false, true_and, and_true, decide_true, decide_false, String.reduceBEq, beq_self_eq_true, bne_self_eq_false, Bool.or_self, Bool.and_self, reduceCtorEq, Option.some.injEq, Bool.decide_eq_true, decide_eq_true_eq]
    refine ⟨mul_okI (by omega) (by omega), by omega, ?_⟩
    have hm := Int.emod_nonneg (st * 36969 + 19) (show (2147483423 : Int) ≠ 0 by omega)
    have hm2 := Int.emod_lt_of_pos (st * 36969 + 19) (show (0 : Int) < 2147483423 by omega)
    generalize (st * 36969 + 19) % 2147483423 = s1 at hm hm2 ⊢
    rw [W_setL1 e]
    try simp only [↓W_sortSet, ↓W_var, ↓W_C, ↓W_bin, ↓W_un, ↓W_chain, ↓W_tru, ↓W_tst, ↓W_notT, ↓W_andT, ↓W_orT, ↓W_andV, ↓W_orV, ↓W_notV, ↓W_if, ↓W_nil, ↓W_cons, ↓W_tup, ↓W_lst, ↓W_call, ↓W_callK, ↓W_noPart, ↓W_part, ↓W_sl, ↓W_meth, ↓W_asg, ↓W_name, ↓W_gnil, ↓W_gcons, ↓W_gseq, ↓W_gsub, ↓W_expr, ↓W_ret, ↓W_retN, ↓W_sif, ↓W_next, ↓W_brk, ↓W_cont, ↓W_sbad, ↓W_seq, ↓W_par2, ↓W_par3, ↓W_for, ↓W_lc, ↓W_yes, ↓W_iseq, ↓W_ienum, ↓W_rng1, ↓W_rng2, ↓W_while, ↓W_fun, ↓W_subD, ↓W_addI, ↓W_addS, ↓W_addT, ↓W_mulI, ↓W_fdiv, ↓W_mod, ↓W_neg, ↓W_ord, ↓W_isi, ↓W_is, ↓W_isnt, ↓W_lenT, ↓W_lenN, ↓W_intI, ↓W_intB, ↓W_abs, ↓W_max2, ↓W_min2, ↓W_divmod, ↓W_tupleT, ↓W_tupleN, ↓W_listT, ↓W_eqI, ↓W_neI, ↓W_eqB, ↓W_neB, ↓W_ix0, ↓W_ix1, ↓W_ix2, ↓its_new, ↓its_tup, ↓lst_new, En.pick, List.filterMap_cons, List.filterMap_nil, tyN, tyM, isT, truD, En.isNon, startE, wipeE, List.map_cons, List.map_nil, List.length_cons, List.length_nil, List.cons_append, List.nil_append, List.replicate_succ, List.replicate_zero, List.getElem?_cons_succ, List.getElem?_cons_zero, List.set_cons_succ, List.set_cons_zero, Nat.reduceSub, Nat.reduceAdd, Nat.zero_add, Nat.reduceLeDiff, Nat.sub_self, Bool.not_true, Bool.not_false, Bool.true_and, Bool.and_true, Bool.false_and, Bool.and_false, Bool.or_true, Bool.true_or, Bool.false_or, Bool.or_false, Bool.false_eq_true, if_true, if_false, ite_true, ite_false, true_and, and_true, decide_true, decide_false, String.reduceBEq, beq_self_eq_true, bne_self_eq_false, Bool.or_self, Bool.and_self, reduceCtorEq, Option.some.injEq, Bool.decide_eq_true, decide_eq_true_eq]
    have e1 := at_set (c' := .lst [.int far, .int s1]) e
    rw [W_ixL1 e1]
    try simp only [↓W_sortSet, ↓W_var, ↓W_C, ↓W_bin, ↓W_un, ↓W_chain, ↓W_tru, ↓W_tst, ↓W_notT, ↓W_andT, ↓W_orT, ↓W_andV, ↓W_orV, ↓W_notV, ↓W_if, ↓W_nil, ↓W_cons, ↓W_tup, ↓W_lst, ↓W_call, ↓W_callK, ↓W_noPart, ↓W_part, ↓W_sl, ↓W_meth, ↓W_asg, ↓W_name, ↓W_gnil, ↓W_gcons, ↓W_gseq, ↓W_gsub, ↓W_expr, ↓W_ret, ↓W_retN, ↓W_sif, ↓W_next, ↓W_brk, ↓W_cont, ↓W_sbad, ↓W_seq, ↓W_par2, ↓W_par3, ↓W_for, ↓W_lc, ↓W_yes, ↓W_iseq, ↓W_ienum, ↓W_rng1, ↓W_rng2, ↓W_while, ↓W_fun, ↓W_subD, ↓W_addI, ↓W_addS, ↓W_addT, ↓W_mulI, ↓W_fdiv, ↓W_mod, ↓W_neg, ↓W_ord, ↓W_isi, ↓W_is, ↓W_isnt, ↓W_lenT, ↓W_lenN, ↓W_intI, ↓W_intB, ↓W_abs, ↓W_max2, ↓W_min2, ↓W_divmod, ↓W_tupleT, ↓W_tupleN, ↓W_listT, ↓W_eqI, ↓W_neI, ↓W_eqB, ↓W_neB, ↓W_ix0, ↓W_ix1, ↓W_ix2, ↓its_new, ↓its_tup, ↓lst_new, En.pick, List.filterMap_cons, List.filterMap_nil, tyN, tyM, isT, truD, En.isNon, startE, wipeE, List.map_cons, List.map_nil, List.length_cons, List.length_nil, List.cons_append, List.nil_append, List.replicate_succ, List.replicate_zero, List.getElem?_cons_succ, List.getElem?_cons_zero, List.set_cons_succ, List.set_cons_zero, Nat.reduceSub, Nat.reduceAdd, Nat.zero_add, Nat.reduceLeDiff, Nat.sub_self, Bool.not_true, Bool.not_false, Bool.true_and, Bool.and_true, Bool.false_and, Bool.and_false, Bool.or_true, Bool.true_or, Bool.false_or, Bool.or_false, Bool.false_eq_true, if_true, if_false, ite_true, ite_false, true_and, and_true, decide_true, decide_false, String.reduceBEq, beq_self_eq_true, bne_self_eq_false, Bool.or_self, Bool.and_self, reduceCtorEq, Option.some.injEq, Bool.decide_eq_true, decide_eq_true_eq]
    refine ⟨mul_okI (by omega) (by omega), ?_⟩
    rw [W_ixL1 e1]
    try simp only [↓W_sortSet, ↓W_var, ↓W_C, ↓W_bin, ↓W_un, ↓W_chain, ↓W_tru, ↓W_tst, ↓W_notT, ↓W_andT, ↓W_orT, ↓W_andV, ↓W_orV, ↓W_notV, ↓W_if, ↓W_nil, ↓W_cons, ↓W_tup, ↓W_lst, ↓W_call, ↓W_callK, ↓W_noPart, ↓W_part, ↓W_sl, ↓W_meth, ↓W_asg, ↓W_name, ↓W_gnil, ↓W_gcons, ↓W_gseq, ↓W_gsub, ↓W_expr, ↓W_ret, ↓W_retN, ↓W_sif, ↓W_next, ↓W_brk, ↓W_cont, ↓W_sbad, ↓W_seq, ↓W_par2, ↓W_par3, ↓W_for, ↓W_lc, ↓W_yes, ↓W_iseq, ↓W_ienum, ↓W_rng1, ↓W_rng2, ↓W_while, ↓W_fun, ↓W_subD, ↓W_addI, ↓W_addS, ↓W_addT, ↓W_mulI, ↓W_fdiv, ↓W_mod, ↓W_neg, ↓W_ord, ↓W_isi, ↓W_is, ↓W_isnt, ↓W_lenT, ↓W_lenN, ↓W_intI, ↓W_intB, ↓W_abs, ↓W_max2, ↓W_min2, ↓W_divmod, ↓W_tupleT, ↓W_tupleN, ↓W_listT, ↓W_eqI, ↓W_neI, ↓W_eqB, ↓W_neB, ↓W_ix0, ↓W_ix1, ↓W_ix2, ↓its_new, ↓its_tup, ↓lst_new, En.pick, List.filterMap_cons, List.filterMap_nil, tyN, tyM, isT, truD, En.isNon, startE, wipeE, List.map_cons, List.map_nil, List.length_cons, List.length_nil, List.cons_append, List.nil_append, List.replicate_succ, List.replicate_zero, List.getElem?_cons_succ, List.getElem?_cons_zero, List.set_cons_succ, List.set_cons_zero, Nat.reduceSub, Nat.reduceAdd, Nat.zero_add, Nat.reduceLeDiff, Nat.sub_self, Bool.not_true, Bool.not_false, Bool.true_and, Bool.and_true, Bool.false_and, Bool.and_false, Bool.or_true, Bool.true_or, Bool.false_or, Bool.or_false, Bool.false_eq_true, if_true, if_false, ite_true, ite_false, true_and, and_true, decide_true, decide_false, String.reduceBEq, beq_self_eq_true, bne_self_eq_false, Bool.or_self, Bool.and_self, reduceCtorEq, Option.some.injEq, Bool.decide_eq_true, decide_eq_true_eq]
    refine ⟨fdiv_ok (by omega) (by omega), by omega, ?_⟩
    have hs := Int.emod_nonneg (s1 * 18000 + s1 / 6263) (show (2147483423 : Int) ≠ 0 by omega)
    have hs2 := Int.emod_lt_of_pos (s1 * 18000 + s1 / 6263) (show (0 : Int) < 2147483423 by omega)
    generalize (s1 * 18000 + s1 / 6263) % 2147483423 = s2 at hs hs2 ⊢
    rw [W_setL1 e1]
    try simp only [↓W_sortSet, ↓W_var, ↓W_C, ↓W_bin, ↓W_un, ↓W_chain, ↓W_tru, ↓W_tst, ↓W_notT, ↓W_andT, ↓W_orT, ↓W_andV, ↓W_orV, ↓W_notV, ↓W_if, ↓W_nil, ↓W_cons, ↓W_tup, ↓W_lst, ↓W_call, ↓W_callK, ↓W_noPart, ↓W_part, ↓W_sl, ↓W_meth, ↓W_asg, ↓W_name, ↓W_gnil, ↓W_gcons, ↓W_gseq, ↓W_gsub, ↓W_expr, ↓W_ret, ↓W_retN, ↓W_sif, ↓W_next, ↓W_brk, ↓W_cont, ↓W_sbad, ↓W_seq, ↓W_par2, ↓W_par3, ↓W_for, ↓W_lc, ↓W_yes, ↓W_iseq, ↓W_ienum, ↓W_rng1, ↓W_rng2, ↓W_while, ↓W_fun, ↓W_subD, ↓W_addI, ↓W_addS, ↓W_addT, ↓W_mulI, ↓W_fdiv, ↓W_mod, ↓W_neg, ↓W_ord, ↓W_isi, ↓W_is, ↓W_isnt, ↓W_lenT, ↓W_lenN, ↓W_intI, ↓W_intB, ↓W_abs, ↓W_max2, ↓W_min2, ↓W_divmod, ↓W_tupleT, ↓W_tupleN, ↓W_listT, ↓W_eqI, ↓W_neI, ↓W_eqB, ↓W_neB, ↓W_ix0, ↓W_ix1, ↓W_ix2, ↓its_new, ↓its_tup, ↓lst_new, En.pick, List.filterMap_cons, List.filterMap_nil, tyN, tyM, isT, truD, En.isNon, startE, wipeE, List.map_cons, List.map_nil, List.length_cons, List.length_nil, List.cons_append, List.nil_append, List.replicate_succ, List.replicate_zero, List.getElem?_cons_succ, List.getElem?_cons_zero, List.set_cons_succ, List.set_cons_zero, Nat.reduceSub, Nat.reduceAdd, Nat.zero_add, Nat.reduceLeDiff, Nat.sub_self, Bool.not_true, Bool.not_false, Bool.true_and, Bool.and_true, Bool.false_and, Bool.and_false, Bool.or_true, Bool.true_or, Bool.false_or, Bool.or_false, Bool.false_eq_true, if_true, if_false, ite_true, ite_false, true_and, and_true, decide_true, decide_false, String.reduceBEq, beq_self_eq_true, bne_self_eq_false, Bool.or_self, Bool.and_self, reduceCtorEq, Option.some.injEq, Bool.decide_eq_true, decide_eq_true_eq]
    have e2 := at_set (c' := .lst [.int far, .int s2]) e1
    rw [W_ixL1 e2]
    try simp only [↓W_sortSet, ↓W_var, ↓W_C, ↓W_bin, ↓W_un, ↓W_chain, ↓W_tru, ↓W_tst, ↓W_notT, ↓W_andT, ↓W_orT, ↓W_andV, ↓W_orV, ↓W_notV, ↓W_if, ↓W_nil, ↓W_cons, ↓W_tup, ↓W_lst, ↓W_call, ↓W_callK, ↓W_noPart, ↓W_part, ↓W_sl, ↓W_meth, ↓W_asg, ↓W_name, ↓W_gnil, ↓W_gcons, ↓W_gseq, ↓W_gsub, ↓W_expr, ↓W_ret, ↓W_retN, ↓W_sif, ↓W_next, ↓W_brk, ↓W_cont, ↓W_sbad, ↓W_seq, ↓W_par2, ↓W_par3, ↓W_for, ↓W_lc, ↓W_yes, ↓W_iseq, ↓W_ienum, ↓W_rng1, ↓W_rng2, ↓W_while, ↓W_fun, ↓W_subD, ↓W_addI, ↓W_addS, ↓W_addT, ↓W_mulI, ↓W_fdiv, ↓W_mod, ↓W_neg, ↓W_ord, ↓W_isi, ↓W_is, ↓W_isnt, ↓W_lenT, ↓W_lenN, ↓W_intI, ↓W_intB, ↓W_abs, ↓W_max2, ↓W_min2, ↓W_divmod, ↓W_tupleT, ↓W_tupleN, ↓W_listT, ↓W_eqI, ↓W_neI, ↓W_eqB, ↓W_neB, ↓W_ix0, ↓W_ix1, ↓W_ix2, ↓its_new, ↓its_tup, ↓lst_new, En.pick, List.filterMap_cons, List.filterMap_nil, tyN, tyM, isT, truD, En.isNon, startE, wipeE, List.map_cons, List.map_nil, List.length_cons, List.length_nil, List.cons_append, List.nil_append, List.replicate_succ, List.replicate_zero, List.getElem?_cons_succ, List.getElem?_cons_zero, List.set_cons_succ, List.set_cons_zero, Nat.reduceSub, Nat.reduceAdd, Nat.zero_add, Nat.reduceLeDiff, Nat.sub_self, Bool.not_true, Bool.not_false, Bool.true_and, Bool.and_true, Bool.false_and, Bool.and_false, Bool.or_true, Bool.true_or, Bool.false_or, Bool.or_false, Bool.false_eq_true, if_true, if_false, ite_true, ite_false, true_and, and_true, decide_true, decide_false, String.reduceBEq, beq_self_eq_true, bne_self_eq_false, Bool.or_self, Bool.and_self, reduceCtorEq, Option.some.injEq, Bool.decide_eq_true, decide_eq_true_eq]
    refine ⟨fdiv_ok (by omega) (by omega), hn0, ?_⟩
    have hr := Int.emod_nonneg (s2 / 907) (show (n : Int) ≠ 0 by omega)
    have hr2 := Int.emod_lt_of_pos (s2 / 907) hn0
    have := k (s2 / 907 % n).toNat _ (by omega) ((SubB.set (S := S) (b := b)).trans SubB.set) ⟨far, s2, e2, h1, h2, hs, hs2⟩
    rwa [show natD (s2 / 907 % n).toNat = .int (s2 / 907 % n) from by unfold natD; rw [Int.toNat_of_nonneg hr]] at this
theorem of_spec {b : Nat} {d : D} {xs : List D} {S : Sto} {Q : D → Sto → Prop} (hw : Bowl b S) (hd : itsD S d = some xs) (hb : ∀ S', SubB b S S' → itsD S' d = some xs) (h0 : 0 < xs.length) (hn : xs.length ≤ 1000000000)
    (k : ∀ x S', x ∈ xs → SubB b S S' → Bowl b S' → Q x S') : W (m__law_of [.loc b, d] S) Q := by
  simp only [m__law_of, ↓W_sortSet, ↓W_var, ↓W_C, ↓W_bin, ↓W_un, ↓W_chain, ↓W_tru, ↓W_tst, ↓W_notT, ↓W_andT, ↓W_orT, ↓W_andV, ↓W_orV, ↓W_notV, ↓W_if, ↓W_nil, ↓W_cons, ↓W_tup, ↓W_lst, ↓W_call, ↓W_callK, ↓W_noPart, ↓W_part, ↓W_sl, ↓W_meth, ↓W_asg, ↓W_name, ↓W_gnil, ↓W_gcons, ↓W_gseq, ↓W_gsub, ↓W_expr, ↓W_ret, ↓W_retN, ↓W_sif, ↓W_next, ↓W_brk, ↓W_cont, ↓W_sbad, ↓W_seq, ↓W_par2, ↓W_par3, ↓W_for, ↓W_lc, ↓W_yes, ↓W_iseq, ↓W_ienum, ↓W_rng1, ↓W_rng2, ↓W_while, ↓W_fun, ↓W_subD, ↓W_addI, ↓W_addS, ↓W_addT, ↓W_mulI, ↓W_fdiv, ↓W_mod, ↓W_neg, ↓W_ord, ↓W_isi, ↓W_is, ↓W_isnt, ↓W_lenT, ↓W_lenN, ↓W_intI, ↓W_intB, ↓W_abs, ↓W_max2, ↓W_min2, ↓W_divmod, ↓W_tupleT, ↓W_tupleN, ↓W_listT, ↓W_eqI, ↓W_neI, ↓W_eqB, ↓W_neB, ↓W_ix0, ↓W_ix1, ↓W_ix2, ↓its_new, ↓its_tup, ↓lst_new, En.pick, List.filterMap_cons, List.filterMap_nil, tyN, tyM, isT, truD, En.isNon, startE, wipeE, List.map_cons, List.map_nil, List.length_cons, List.length_nil, List.cons_append, List.nil_append, List.replicate_succ, List.replicate_zero, List.getElem?_cons_succ, List.getElem?_cons_zero, List.set_cons_succ, List.set_cons_zero, Nat.reduceSub, Nat.reduceAdd, Nat.zero_add, Nat.reduceLeDiff, Nat.sub_self, Bool.not_true, Bool.not_false, Bool.true_and, Bool.and_true, Bool.false_and, Bool.and_false, Bool.or_true, Bool.true_or, Bool.false_or, Bool.or_false, Bool.false_eq_true, if_true, if_false, ite_true, ite_false, true_and, and_true, decide_true, decide_false, String.reduceBEq, beq_self_eq_true, bne_self_eq_false, Bool.or_self, Bool.and_self, reduceCtorEq, Option.some.injEq, Bool.decide_eq_true, decide_eq_true_eq]
  rw [W_len hd]
  try simp only [↓W_sortSet, ↓W_var, ↓W_C, ↓W_bin, ↓W_un, ↓W_chain, ↓W_tru, ↓W_tst, ↓W_notT, ↓W_andT, ↓W_orT, ↓W_andV, ↓W_orV, ↓W_notV, ↓W_if, ↓W_nil, ↓W_cons, ↓W_tup, ↓W_lst, ↓W_call, ↓W_callK, ↓W_noPart, ↓W_part, ↓W_sl, ↓W_meth, ↓W_asg, ↓W_name, ↓W_gnil, ↓W_gcons, ↓W_gseq, ↓W_gsub, ↓W_expr, ↓W_ret, ↓W_retN, ↓W_sif, ↓W_next, ↓W_brk, ↓W_cont, ↓W_sbad, ↓W_seq, ↓W_par2, ↓W_par3, ↓W_for, ↓W_lc, ↓W_yes, ↓W_iseq, ↓W_ienum, ↓W_rng1, ↓W_rng2, ↓W_while, ↓W_fun, ↓W_subD, ↓W_addI, ↓W_addS, ↓W_addT, ↓W_mulI, ↓W_fdiv, ↓W_mod, ↓W_neg, ↓W_ord, ↓W_isi, ↓W_is, ↓W_isnt, ↓W_lenT, ↓W_lenN, ↓W_intI, ↓W_intB, ↓W_abs, ↓W_max2, ↓W_min2, ↓W_divmod, ↓W_tupleT, ↓W_tupleN, ↓W_listT, ↓W_eqI, ↓W_neI, ↓W_eqB, ↓W_neB, ↓W_ix0, ↓W_ix1, ↓W_ix2, ↓its_new, ↓its_tup, ↓lst_new, En.pick, List.filterMap_cons, List.filterMap_nil, tyN, tyM, isT, truD, En.isNon, startE, wipeE, List.map_cons, List.map_nil, List.length_cons, List.length_nil, List.cons_append, List.nil_append, List.replicate_succ, List.replicate_zero, List.getElem?_cons_succ, List.getElem?_cons_zero, List.set_cons_succ, List.set_cons_zero, Nat.reduceSub, Nat.reduceAdd, Nat.zero_add, Nat.reduceLeDiff, Nat.sub_self, Bool.not_true, Bool.not_false, Bool.true_and, Bool.and_true, Bool.false_and, Bool.and_false, Bool.or_true, Bool.true_or, Bool.false_or, Bool.or_false, Bool.false_eq_true, if_true, if_false, ite_true, ite_false, true_and, and_true, decide_true, decide_false, String.reduceBEq, beq_self_eq_true, bne_self_eq_false, Bool.or_self, Bool.and_self, reduceCtorEq, Option.some.injEq, Bool.decide_eq_true, decide_eq_true_eq]
  refine draw_spec hw rfl h0 hn fun r S' hr s w => ?_
  rw [W_ixN (hb S' s) (List.getElem?_eq_getElem hr)]
  try simp only [↓W_sortSet, ↓W_var, ↓W_C, ↓W_bin, ↓W_un, ↓W_chain, ↓W_tru, ↓W_tst, ↓W_notT, ↓W_andT, ↓W_orT, ↓W_andV, ↓W_orV, ↓W_notV, ↓W_if, ↓W_nil, ↓W_cons, ↓W_tup, ↓W_lst, ↓W_call, ↓W_callK, ↓W_noPart, ↓W_part, ↓W_sl, ↓W_meth, ↓W_asg, ↓W_name, ↓W_gnil, ↓W_gcons, ↓W_gseq, ↓W_gsub, ↓W_expr, ↓W_ret, ↓W_retN, ↓W_sif, ↓W_next, ↓W_brk, ↓W_cont, ↓W_sbad, ↓W_seq, ↓W_par2, ↓W_par3, ↓W_for, ↓W_lc, ↓W_yes, ↓W_iseq, ↓W_ienum, ↓W_rng1, ↓W_rng2, ↓W_while, ↓W_fun, ↓W_subD, ↓W_addI, ↓W_addS, ↓W_addT, ↓W_mulI, ↓W_fdiv, ↓W_mod, ↓W_neg, ↓W_ord, ↓W_isi, ↓W_is, ↓W_isnt, ↓W_lenT, ↓W_lenN, ↓W_intI, ↓W_intB, ↓W_abs, ↓W_max2, ↓W_min2, ↓W_divmod, ↓W_tupleT, ↓W_tupleN, ↓W_listT, ↓W_eqI, ↓W_neI, ↓W_eqB, ↓W_neB, ↓W_ix0, ↓W_ix1, ↓W_ix2, ↓its_new, ↓its_tup, ↓lst_new, En.pick, List.filterMap_cons, List.filterMap_nil, tyN, tyM, isT, truD, En.isNon, startE, wipeE, List.map_cons, List.map_nil, List.length_cons, List.length_nil, List.cons_append, List.nil_append, List.replicate_succ, List.replicate_zero, List.getElem?_cons_succ, List.getElem?_cons_zero, List.set_cons_succ, List.set_cons_zero, Nat.reduceSub, Nat.reduceAdd, Nat.zero_add, Nat.reduceLeDiff, Nat.sub_self, Bool.not_true, Bool.not_false, Bool.true_and, Bool.and_true, Bool.false_and, Bool.and_false, Bool.or_true, Bool.true_or, Bool.false_or, Bool.or_false, Bool.false_eq_true, if_true, if_false, ite_true, ite_false, true_and, and_true, decide_true, decide_false, String.reduceBEq, beq_self_eq_true, bne_self_eq_false, Bool.or_self, Bool.and_self, reduceCtorEq, Option.some.injEq, Bool.decide_eq_true, decide_eq_true_eq]
  exact k _ _ (List.getElem_mem hr) s w
theorem of_tup {b : Nat} {xs : List D} {S : Sto} {Q : D → Sto → Prop} (hw : Bowl b S) (h0 : 0 < xs.length) (hn : xs.length ≤ 1000000000)
    (k : ∀ x S', x ∈ xs → SubB b S S' → Bowl b S' → Q x S') : W (m__law_of [.loc b, .tup xs] S) Q := of_spec hw rfl (fun _ _ => rfl) h0 hn k
end L_k07
namespace L_k07
open PySem L2 En
def tupI (v : List Int) : D := .tup (v.map D.int)
theorem ok_tupI {w : List Int} {n : Nat} (h : w.length ≤ 1000000) (hn : 2 ≤ n) : okD n (tupI w) := ok_mono (ok_ints (n := 0) h) hn
theorem W_slT {ds : List D} {lo hi : Option Int} {S : Sto} {Q : D → Sto → Prop} : W (slD (.tup ds) lo hi S) Q = Q (.tup (cutD ds lo hi)) S := W_ok
def at' (l : List Int) (k : Nat) : Int := (l[k]?).getD 0
theorem int_at {v : List Int} {i : Nat} (h : i < v.length) : (v.map D.int)[i]? = some (.int (at' v i)) := by
  unfold at'; rw [List.getElem?_map, List.getElem?_eq_getElem h]; rfl
/-- the sum of two that stand in l -/
def sumIn (l : List Int) (x : Int) : Bool := l.any fun e => l.contains (x - e)
def okAt (l : List Int) (k : Nat) : Bool := !(k == 30) && (if k = 0 then at' l 0 == 1 else decide (at' l (k - 1) < at' l k) && sumIn (l.take k) (at' l k))
def okFrom (l : List Int) (k : Nat) : Nat → Bool
  | 0 => true
  | n + 1 => okAt l k && okFrom l (k + 1) n
def rowOk (l : List Int) : Bool := !l.isEmpty && okFrom l 0 l.length
theorem cut_take {ds : List D} {k : Nat} (h : k ≤ ds.length) : cutD ds none (some (k : Int)) = ds.take k := by
  unfold cutD
  rw [HT.sIx_none, HT.sIx_nat, Nat.min_eq_left h, List.drop_zero, Nat.sub_zero]
theorem cut_drop {ds : List D} {k : Nat} (h : k ≤ ds.length) : cutD ds (some (k : Int)) none = ds.drop k := by
  unfold cutD
  rw [HT.sIx_none, HT.sIx_nat, Nat.min_eq_left h]
  exact List.take_of_length_le (by rw [List.length_drop]; omega)
theorem W_is_whole {i : Int} {S : Sto} {Q : D → Sto → Prop} : W (m_is_whole [.int i] S) Q = Q (.bl true) S := by
  simp only [m_is_whole, ↓W_sortSet, ↓W_slT, ↓W_var, ↓W_C, ↓W_bin, ↓W_un, ↓W_chain, ↓W_tru, ↓W_tst, ↓W_notT, ↓W_andT, ↓W_orT, ↓W_andV, ↓W_orV, ↓W_notV, ↓W_if, ↓W_nil, ↓W_cons, ↓W_tup, ↓W_lst, ↓W_call, ↓W_callK, ↓W_noPart, ↓W_part, ↓W_sl, ↓W_meth, ↓W_asg, ↓W_name, ↓W_gnil, ↓W_gcons, ↓W_gseq, ↓W_gsub, ↓W_expr, ↓W_ret, ↓W_retN, ↓W_sif, ↓W_next, ↓W_brk, ↓W_cont, ↓W_sbad, ↓W_seq, ↓W_par2, ↓W_par3, ↓W_for, ↓W_lc, ↓W_yes, ↓W_iseq, ↓W_ienum, ↓W_rng1, ↓W_rng2, ↓W_while, ↓W_fun, ↓W_subD, ↓W_addI, ↓W_addS, ↓W_addT, ↓W_mulI, ↓W_fdiv, ↓W_mod, ↓W_neg, ↓W_ord, ↓W_isi, ↓W_is, ↓W_isnt, ↓W_lenT, ↓W_lenN, ↓W_intI, ↓W_intB, ↓W_abs, ↓W_max2, ↓W_min2, ↓W_divmod, ↓W_tupleT, ↓W_tupleN, ↓W_listT, ↓W_eqI, ↓W_neI, ↓W_eqB, ↓W_neB, ↓W_ix0, ↓W_ix1, ↓W_ix2, ↓its_new, ↓its_tup, ↓lst_new, En.pick, List.filterMap_cons, List.filterMap_nil, tyN, tyM, isT, truD, En.isNon, startE, wipeE, List.map_cons, List.map_nil, List.length_cons, List.length_nil, List.cons_append, List.nil_append, List.replicate_succ, List.replicate_zero, List.getElem?_cons_succ, List.getElem?_cons_zero, List.set_cons_succ, List.set_cons_zero, Nat.reduceSub, Nat.reduceAdd, Nat.zero_add, Nat.reduceLeDiff, Nat.sub_self, Bool.not_true, Bool.not_false, Bool.true_and, Bool.and_true, Bool.false_and, Bool.and_false, Bool.or_true, Bool.true_or, Bool.false_or, Bool.or_false, Bool.false_eq_true, if_true, if_false, ite_true, ite_false, true_and, and_true, decide_true, decide_false, String.reduceBEq, beq_self_eq_true, bne_self_eq_false, Bool.or_self, Bool.and_self, reduceCtorEq, Option.some.injEq, Bool.decide_eq_true, decide_eq_true_eq]
theorem W_law_is_whole {i : Int} {S : Sto} {Q : D → Sto → Prop} : W (m__law_is_whole [.int i] S) Q = Q (.bl true) S := by
  simp only [m__law_is_whole, ↓W_sortSet, ↓W_slT, ↓W_var, ↓W_C, ↓W_bin, ↓W_un, ↓W_chain, ↓W_tru, ↓W_tst, ↓W_notT, ↓W_andT, ↓W_orT, ↓W_andV, ↓W_orV, ↓W_notV, ↓W_if, ↓W_nil, ↓W_cons, ↓W_tup, ↓W_lst, ↓W_call, ↓W_callK, ↓W_noPart, ↓W_part, ↓W_sl, ↓W_meth, ↓W_asg, ↓W_name, ↓W_gnil, ↓W_gcons, ↓W_gseq, ↓W_gsub, ↓W_expr, ↓W_ret, ↓W_retN, ↓W_sif, ↓W_next, ↓W_brk, ↓W_cont, ↓W_sbad, ↓W_seq, ↓W_par2, ↓W_par3, ↓W_for, ↓W_lc, ↓W_yes, ↓W_iseq, ↓W_ienum, ↓W_rng1, ↓W_rng2, ↓W_while, ↓W_fun, ↓W_subD, ↓W_addI, ↓W_addS, ↓W_addT, ↓W_mulI, ↓W_fdiv, ↓W_mod, ↓W_neg, ↓W_ord, ↓W_isi, ↓W_is, ↓W_isnt, ↓W_lenT, ↓W_lenN, ↓W_intI, ↓W_intB, ↓W_abs, ↓W_max2, ↓W_min2, ↓W_divmod, ↓W_tupleT, ↓W_tupleN, ↓W_listT, ↓W_eqI, ↓W_neI, ↓W_eqB, ↓W_neB, ↓W_ix0, ↓W_ix1, ↓W_ix2, ↓its_new, ↓its_tup, ↓lst_new, En.pick, List.filterMap_cons, List.filterMap_nil, tyN, tyM, isT, truD, En.isNon, startE, wipeE, List.map_cons, List.map_nil, List.length_cons, List.length_nil, List.cons_append, List.nil_append, List.replicate_succ, List.replicate_zero, List.getElem?_cons_succ, List.getElem?_cons_zero, List.set_cons_succ, List.set_cons_zero, Nat.reduceSub, Nat.reduceAdd, Nat.zero_add, Nat.reduceLeDiff, Nat.sub_self, Bool.not_true, Bool.not_false, Bool.true_and, Bool.and_true, Bool.false_and, Bool.and_false, Bool.or_true, Bool.true_or, Bool.false_or, Bool.or_false, Bool.false_eq_true, if_true, if_false, ite_true, ite_false, true_and, and_true, decide_true, decide_false, String.reduceBEq, beq_self_eq_true, bne_self_eq_false, Bool.or_self, Bool.and_self, reduceCtorEq, Option.some.injEq, Bool.decide_eq_true, decide_eq_true_eq]
theorem sum_in_pu {l : List Int} {x : Int} (hl : l.length ≤ 1000000) : Pu m_is_sum_in [tupI l, .int x] (.bl (sumIn l x)) := fun S => by
  simp only [m_is_sum_in, tupI, ↓W_sortSet, ↓W_slT, ↓W_var, ↓W_C, ↓W_bin, ↓W_un, ↓W_chain, ↓W_tru, ↓W_tst, ↓W_notT, ↓W_andT, ↓W_orT, ↓W_andV, ↓W_orV, ↓W_notV, ↓W_if, ↓W_nil, ↓W_cons, ↓W_tup, ↓W_lst, ↓W_call, ↓W_callK, ↓W_noPart, ↓W_part, ↓W_sl, ↓W_meth, ↓W_asg, ↓W_name, ↓W_gnil, ↓W_gcons, ↓W_gseq, ↓W_gsub, ↓W_expr, ↓W_ret, ↓W_retN, ↓W_sif, ↓W_next, ↓W_brk, ↓W_cont, ↓W_sbad, ↓W_seq, ↓W_par2, ↓W_par3, ↓W_for, ↓W_lc, ↓W_yes, ↓W_iseq, ↓W_ienum, ↓W_rng1, ↓W_rng2, ↓W_while, ↓W_fun, ↓W_subD, ↓W_addI, ↓W_addS, ↓W_addT, ↓W_mulI, ↓W_fdiv, ↓W_mod, ↓W_neg, ↓W_ord, ↓W_isi, ↓W_is, ↓W_isnt, ↓W_lenT, ↓W_lenN, ↓W_intI, ↓W_intB, ↓W_abs, ↓W_max2, ↓W_min2, ↓W_divmod, ↓W_tupleT, ↓W_tupleN, ↓W_listT, ↓W_eqI, ↓W_neI, ↓W_eqB, ↓W_neB, ↓W_ix0, ↓W_ix1, ↓W_ix2, ↓its_new, ↓its_tup, ↓lst_new, En.pick, List.filterMap_cons, List.filterMap_nil, tyN, tyM, isT, truD, En.isNon, startE, wipeE, List.map_cons, List.map_nil, List.length_cons, List.length_nil, List.cons_append, List.nil_append, List.replicate_succ, List.replicate_zero, List.getElem?_cons_succ, List.getElem?_cons_zero, List.set_cons_succ, List.set_cons_zero, Nat.reduceSub, Nat.reduceAdd, Nat.zero_add, Nat.reduceLeDiff, Nat.sub_self, Bool.not_true, Bool.not_false, Bool.true_and, Bool.and_true, Bool.false_and, Bool.and_false, Bool.or_true, Bool.true_or, Bool.false_or, Bool.or_false, Bool.false_eq_true, if_true, if_false, ite_true, ite_false, true_and, and_true, decide_true, decide_false, String.reduceBEq, beq_self_eq_true, bne_self_eq_false, Bool.or_self, Bool.and_self, reduceCtorEq, Option.some.injEq, Bool.decide_eq_true, decide_eq_true_eq]
  refine W_lcM (v := fun e => .bl (l.contains (x - e))) rfl (fun e he S1 s => ?_) fun S' s => ⟨by rw [List.length_map]; exact le_lim hl, ?_⟩
  · try simp only [↓W_sortSet, ↓W_slT, ↓W_var, ↓W_C, ↓W_bin, ↓W_un, ↓W_chain, ↓W_tru, ↓W_tst, ↓W_notT, ↓W_andT, ↓W_orT, ↓W_andV, ↓W_orV, ↓W_notV, ↓W_if, ↓W_nil, ↓W_cons, ↓W_tup, ↓W_lst, ↓W_call, ↓W_callK, ↓W_noPart, ↓W_part, ↓W_sl, ↓W_meth, ↓W_asg, ↓W_name, ↓W_gnil, ↓W_gcons, ↓W_gseq, ↓W_gsub, ↓W_expr, ↓W_ret, ↓W_retN, ↓W_sif, ↓W_next, ↓W_brk, ↓W_cont, ↓W_sbad, ↓W_seq, ↓W_par2, ↓W_par3, ↓W_for, ↓W_lc, ↓W_yes, ↓W_iseq, ↓W_ienum, ↓W_rng1, ↓W_rng2, ↓W_while, ↓W_fun, ↓W_subD, ↓W_addI, ↓W_addS, ↓W_addT, ↓W_mulI, ↓W_fdiv, ↓W_mod, ↓W_neg, ↓W_ord, ↓W_isi, ↓W_is, ↓W_isnt, ↓W_lenT, ↓W_lenN, ↓W_intI, ↓W_intB, ↓W_abs, ↓W_max2, ↓W_min2, ↓W_divmod, ↓W_tupleT, ↓W_tupleN, ↓W_listT, ↓W_eqI, ↓W_neI, ↓W_eqB, ↓W_neB, ↓W_ix0, ↓W_ix1, ↓W_ix2, ↓its_new, ↓its_tup, ↓lst_new, En.pick, List.filterMap_cons, List.filterMap_nil, tyN, tyM, isT, truD, En.isNon, startE, wipeE, List.map_cons, List.map_nil, List.length_cons, List.length_nil, List.cons_append, List.nil_append, List.replicate_succ, List.replicate_zero, List.getElem?_cons_succ, List.getElem?_cons_zero, List.set_cons_succ, List.set_cons_zero, Nat.reduceSub, Nat.reduceAdd, Nat.zero_add, Nat.reduceLeDiff, Nat.sub_self, Bool.not_true, Bool.not_false, Bool.true_and, Bool.and_true, Bool.false_and, Bool.and_false, Bool.or_true, Bool.true_or, Bool.false_or, Bool.or_false, Bool.false_eq_true, if_true, if_false, ite_true, ite_false, true_and, and_true, decide_true, decide_false, String.reduceBEq, beq_self_eq_true, bne_self_eq_false, Bool.or_self, Bool.and_self, reduceCtorEq, Option.some.injEq, Bool.decide_eq_true, decide_eq_true_eq]
    rw [W_inI]
    exact ⟨rfl, Sub.refl⟩
  · rw [W_any (bs := l.map fun e => l.contains (x - e)) (by rw [lst_new, List.map_map]; rfl)]
    exact ⟨by rw [List.any_map]; rfl, s.new⟩
theorem drop_zip {α : Type} {l : List α} {x : α} {i k : Nat} {r : List (α × Nat)} (h : (x, i) :: r = (l.drop k).zipIdx k) : ∃ hk : k < l.length, x = l[k] ∧ i = k ∧ r = (l.drop (k + 1)).zipIdx (k + 1) := by
  by_cases hk : k < l.length
  · rw [List.drop_eq_getElem_cons hk, List.zipIdx_cons] at h
    simp only [List.cons.injEq, Prod.mk.injEq] at h
    exact ⟨hk, h.1.1, h.1.2, h.2⟩
  · rw [List.drop_eq_nil_of_le (by omega)] at h
    cases h
theorem drop_zip0 {α : Type} {l : List α} {k : Nat} (h : [] = (l.drop k).zipIdx k) : l.length ≤ k := by
  have := congrArg List.length h
  simp at this
  omega
theorem at_eq {l : List Int} {k : Nat} (h : k < l.length) : at' l k = l[k] := by
  unfold at'; rw [List.getElem?_eq_getElem h]; rfl
theorem map_take {l : List Int} {k : Nat} : (l.map D.int).take k = (l.take k).map D.int := by rw [List.map_take]
theorem wrong_spec {l : List Int} {S : Sto} {Q : D → Sto → Prop} (hl : l.length ≤ 1000000) (k : ∀ b es S', Sub S S' → S'[b]? = some (.lst es) → es.isEmpty = rowOk l → (∀ x ∈ es, okD 1 x) → Q (.loc b) S') : W (m_wrong_in_row [tupI l] S) Q := by
  simp only [m_wrong_in_row, tupI, ↓W_sortSet, ↓W_slT, ↓W_var, ↓W_C, ↓W_bin, ↓W_un, ↓W_chain, ↓W_tru, ↓W_tst, ↓W_notT, ↓W_andT, ↓W_orT, ↓W_andV, ↓W_orV, ↓W_notV, ↓W_if, ↓W_nil, ↓W_cons, ↓W_tup, ↓W_lst, ↓W_call, ↓W_callK, ↓W_noPart, ↓W_part, ↓W_sl, ↓W_meth, ↓W_asg, ↓W_name, ↓W_gnil, ↓W_gcons, ↓W_gseq, ↓W_gsub, ↓W_expr, ↓W_ret, ↓W_retN, ↓W_sif, ↓W_next, ↓W_brk, ↓W_cont, ↓W_sbad, ↓W_seq, ↓W_par2, ↓W_par3, ↓W_for, ↓W_lc, ↓W_yes, ↓W_iseq, ↓W_ienum, ↓W_rng1, ↓W_rng2, ↓W_while, ↓W_fun, ↓W_subD, ↓W_addI, ↓W_addS, ↓W_addT, ↓W_mulI, ↓W_fdiv, ↓W_mod, ↓W_neg, ↓W_ord, ↓W_isi, ↓W_is, ↓W_isnt, ↓W_lenT, ↓W_lenN, ↓W_intI, ↓W_intB, ↓W_abs, ↓W_max2, ↓W_min2, ↓W_divmod, ↓W_tupleT, ↓W_tupleN, ↓W_listT, ↓W_eqI, ↓W_neI, ↓W_eqB, ↓W_neB, ↓W_ix0, ↓W_ix1, ↓W_ix2, ↓its_new, ↓its_tup, ↓lst_new, En.pick, List.filterMap_cons, List.filterMap_nil, tyN, tyM, isT, truD, En.isNon, startE, wipeE, List.map_cons, List.map_nil, List.length_cons, List.length_nil, List.cons_append, List.nil_append, List.replicate_succ, List.replicate_zero, List.getElem?_cons_succ, List.getElem?_cons_zero, List.set_cons_succ, List.set_cons_zero, Nat.reduceSub, Nat.reduceAdd, Nat.zero_add, Nat.reduceLeDiff, Nat.sub_self, Bool.not_true, Bool.not_false, Bool.true_and, Bool.and_true, Bool.false_and, Bool.and_false, Bool.or_true, Bool.true_or, Bool.false_or, Bool.or_false, Bool.false_eq_true, if_true, if_false, ite_true, ite_false, true_and, and_true, decide_true, decide_false, String.reduceBEq, beq_self_eq_true, bne_self_eq_false, Bool.or_self, Bool.and_self, reduceCtorEq, Option.some.injEq, Bool.decide_eq_true, decide_eq_true_eq]
  rw [W_eqNil (ok_tupI (n := 5) hl (by decide))]
  refine ⟨Nat.zero_le _, ?_⟩
  cases hl0 : l with
  | nil =>
    simp only [List.map_nil, List.isEmpty_nil, ↓W_sortSet, ↓W_slT, ↓W_var, ↓W_C, ↓W_bin, ↓W_un, ↓W_chain, ↓W_tru, ↓W_tst, ↓W_notT, ↓W_andT, ↓W_orT, ↓W_andV, ↓W_orV, ↓W_notV, ↓W_if, ↓W_nil, ↓W_cons, ↓W_tup, ↓W_lst, ↓W_call, ↓W_callK, ↓W_noPart, ↓W_part, ↓W_sl, ↓W_meth, ↓W_asg, ↓W_name, ↓W_gnil, ↓W_gcons, ↓W_gseq, ↓W_gsub, ↓W_expr, ↓W_ret, ↓W_retN, ↓W_sif, ↓W_next, ↓W_brk, ↓W_cont, ↓W_sbad, ↓W_seq, ↓W_par2, ↓W_par3, ↓W_for, ↓W_lc, ↓W_yes, ↓W_iseq, ↓W_ienum, ↓W_rng1, ↓W_rng2, ↓W_while, ↓W_fun, ↓W_subD, ↓W_addI, ↓W_addS, ↓W_addT, ↓W_mulI, ↓W_fdiv, ↓W_mod, ↓W_neg, ↓W_ord, ↓W_isi, ↓W_is, ↓W_isnt, ↓W_lenT, ↓W_lenN, ↓W_intI, ↓W_intB, ↓W_abs, ↓W_max2, ↓W_min2, ↓W_divmod, ↓W_tupleT, ↓W_tupleN, ↓W_listT, ↓W_eqI, ↓W_neI, ↓W_eqB, ↓W_neB, ↓W_ix0, ↓W_ix1, ↓W_ix2, ↓its_new, ↓its_tup, ↓lst_new, En.pick, List.filterMap_cons, List.filterMap_nil, tyN, tyM, isT, truD, En.isNon, startE, wipeE, List.map_cons, List.map_nil, List.length_cons, List.length_nil, List.cons_append, List.nil_append, List.replicate_succ, List.replicate_zero, List.getElem?_cons_succ, List.getElem?_cons_zero, List.set_cons_succ, List.set_cons_zero, Nat.reduceSub, Nat.reduceAdd, Nat.zero_add, Nat.reduceLeDiff, Nat.sub_self, Bool.not_true, Bool.not_false, Bool.true_and, Bool.and_true, Bool.false_and, Bool.and_false, Bool.or_true, Bool.true_or, Bool.false_or, Bool.or_false, Bool.false_eq_true, if_true, if_false, ite_true, ite_false, true_and, and_true, decide_true, decide_false, String.reduceBEq, beq_self_eq_true, bne_self_eq_false, Bool.or_self, Bool.and_self, reduceCtorEq, Option.some.injEq, Bool.decide_eq_true, decide_eq_true_eq]
    subst hl0
    exact ⟨by decide, k _ _ _ Sub.refl.new at_new rfl (by intro x hx; simp at hx; subst hx; trivial)⟩
  | cons x0 r0 =>
    rw [← hl0]
    have hne : (l.map D.int).isEmpty = false := by rw [hl0]; rfl
    have hne' : l.isEmpty = false := by rw [hl0]; rfl
    simp only [hne, ↓W_sortSet, ↓W_slT, ↓W_var, ↓W_C, ↓W_bin, ↓W_un, ↓W_chain, ↓W_tru, ↓W_tst, ↓W_notT, ↓W_andT, ↓W_orT, ↓W_andV, ↓W_orV, ↓W_notV, ↓W_if, ↓W_nil, ↓W_cons, ↓W_tup, ↓W_lst, ↓W_call, ↓W_callK, ↓W_noPart, ↓W_part, ↓W_sl, ↓W_meth, ↓W_asg, ↓W_name, ↓W_gnil, ↓W_gcons, ↓W_gseq, ↓W_gsub, ↓W_expr, ↓W_ret, ↓W_retN, ↓W_sif, ↓W_next, ↓W_brk, ↓W_cont, ↓W_sbad, ↓W_seq, ↓W_par2, ↓W_par3, ↓W_for, ↓W_lc, ↓W_yes, ↓W_iseq, ↓W_ienum, ↓W_rng1, ↓W_rng2, ↓W_while, ↓W_fun, ↓W_subD, ↓W_addI, ↓W_addS, ↓W_addT, ↓W_mulI, ↓W_fdiv, ↓W_mod, ↓W_neg, ↓W_ord, ↓W_isi, ↓W_is, ↓W_isnt, ↓W_lenT, ↓W_lenN, ↓W_intI, ↓W_intB, ↓W_abs, ↓W_max2, ↓W_min2, ↓W_divmod, ↓W_tupleT, ↓W_tupleN, ↓W_listT, ↓W_eqI, ↓W_neI, ↓W_eqB, ↓W_neB, ↓W_ix0, ↓W_ix1, ↓W_ix2, ↓its_new, ↓its_tup, ↓lst_new, En.pick, List.filterMap_cons, List.filterMap_nil, tyN, tyM, isT, truD, En.isNon, startE, wipeE, List.map_cons, List.map_nil, List.length_cons, List.length_nil, List.cons_append, List.nil_append, List.replicate_succ, List.replicate_zero, List.getElem?_cons_succ, List.getElem?_cons_zero, List.set_cons_succ, List.set_cons_zero, Nat.reduceSub, Nat.reduceAdd, Nat.zero_add, Nat.reduceLeDiff, Nat.sub_self, Bool.not_true, Bool.not_false, Bool.true_and, Bool.and_true, Bool.false_and, Bool.and_false, Bool.or_true, Bool.true_or, Bool.false_or, Bool.or_false, Bool.false_eq_true, if_true, if_false, ite_true, ite_false, true_and, and_true, decide_true, decide_false, String.reduceBEq, beq_self_eq_true, bne_self_eq_false, Bool.or_self, Bool.and_self, reduceCtorEq, Option.some.injEq, Bool.decide_eq_true, decide_eq_true_eq]
    rw [enumFrom_map]
    have bad : ∀ (j : Nat) S', okFrom l 0 l.length = false → Sub S S' → 1 ≤ lim ∧ Q (.loc S'.length) (S' ++ [C.lst [.int (j : Int)]]) := fun j S' e s =>
      ⟨by decide, k _ _ _ s.new at_new (by simp only [rowOk, e, Bool.and_false]; rfl) (by intro x hx; simp at hx; subst hx; trivial)⟩
    refine W_forI (fun (r : List (Int × Nat)) (ρ : En.Env) (S1 : Sto) => Sub S S1 ∧ ∃ (j : Nat) (x1 x2 : Option D), r = (l.drop j).zipIdx j ∧ j ≤ l.length ∧ okFrom l 0 l.length = okFrom l j (l.length - j) ∧ ρ = [some (.tup (l.map D.int)), x1, x2]) ?_ ?_ (l.zipIdx 0) _ S ⟨Sub.refl, 0, _, _, rfl, Nat.zero_le _, rfl, rfl⟩
    · rintro ⟨x, i⟩ r ρ S1 ⟨s, j, x1, x2, er, hj, eo, rfl⟩
      obtain ⟨hj, rfl, rfl, rfl⟩ := drop_zip er
      refine ⟨rfl, ?_⟩
      obtain ⟨n, hn⟩ : ∃ n, l.length - i = n + 1 := ⟨l.length - i - 1, by omega⟩
      rw [hn] at eo
      simp only [okFrom] at eo
      simp only [W_is_whole, ↓W_sortSet, ↓W_slT, ↓W_var, ↓W_C, ↓W_bin, ↓W_un, ↓W_chain, ↓W_tru, ↓W_tst, ↓W_notT, ↓W_andT, ↓W_orT, ↓W_andV, ↓W_orV, ↓W_notV, ↓W_if, ↓W_nil, ↓W_cons, ↓W_tup, ↓W_lst, ↓W_call, ↓W_callK, ↓W_noPart, ↓W_part, ↓W_sl, ↓W_meth, ↓W_asg, ↓W_name, ↓W_gnil, ↓W_gcons, ↓W_gseq, ↓W_gsub, ↓W_expr, ↓W_ret, ↓W_retN, ↓W_sif, ↓W_next, ↓W_brk, ↓W_cont, ↓W_sbad, ↓W_seq, ↓W_par2, ↓W_par3, ↓W_for, ↓W_lc, ↓W_yes, ↓W_iseq, ↓W_ienum, ↓W_rng1, ↓W_rng2, ↓W_while, ↓W_fun, ↓W_subD, ↓W_addI, ↓W_addS, ↓W_addT, ↓W_mulI, ↓W_fdiv, ↓W_mod, ↓W_neg, ↓W_ord, ↓W_isi, ↓W_is, ↓W_isnt, ↓W_lenT, ↓W_lenN, ↓W_intI, ↓W_intB, ↓W_abs, ↓W_max2, ↓W_min2, ↓W_divmod, ↓W_tupleT, ↓W_tupleN, ↓W_listT, ↓W_eqI, ↓W_neI, ↓W_eqB, ↓W_neB, ↓W_ix0, ↓W_ix1, ↓W_ix2, ↓its_new, ↓its_tup, ↓lst_new, En.pick, List.filterMap_cons, List.filterMap_nil, tyN, tyM, isT, truD, En.isNon, startE, wipeE, List.map_cons, List.map_nil, List.length_cons, List.length_nil, List.cons_append, List.nil_append, List.replicate_succ, List.replicate_zero, List.getElem?_cons_succ, List.getElem?_cons_zero, List.set_cons_succ, List.set_cons_zero, Nat.reduceSub, Nat.reduceAdd, Nat.zero_add, Nat.reduceLeDiff, Nat.sub_self, Bool.not_true, Bool.not_false, Bool.true_and, Bool.and_true, Bool.false_and, Bool.and_false, Bool.or_true, Bool.true_or, Bool.false_or, Bool.or_false, Bool.false_eq_true, if_true, if_false, ite_true, ite_false, true_and, and_true, decide_true, decide_false, String.reduceBEq, beq_self_eq_true, bne_self_eq_false, Bool.or_self, Bool.and_self, reduceCtorEq, Option.some.injEq, Bool.decide_eq_true, decide_eq_true_eq]
      by_cases c30 : i = 30
      · subst c30
        simp only [show (((30 : Nat) : Int) == 30) = true from rfl, ↓W_sortSet, ↓W_slT, ↓W_var, ↓W_C, ↓W_bin, ↓W_un, ↓W_chain, ↓W_tru, ↓W_tst, ↓W_notT, ↓W_andT, ↓W_orT, ↓W_andV, ↓W_orV, ↓W_notV, ↓W_if, ↓W_nil, ↓W_cons, ↓W_tup, ↓W_lst, ↓W_call, ↓W_callK, ↓W_noPart, ↓W_part, ↓W_sl, ↓W_meth, ↓W_asg, ↓W_name, ↓W_gnil, ↓W_gcons, ↓W_gseq, ↓W_gsub, ↓W_expr, ↓W_ret, ↓W_retN, ↓W_sif, ↓W_next, ↓W_brk, ↓W_cont, ↓W_sbad, ↓W_seq, ↓W_par2, ↓W_par3, ↓W_for, ↓W_lc, ↓W_yes, ↓W_iseq, ↓W_ienum, ↓W_rng1, ↓W_rng2, ↓W_while, ↓W_fun, ↓W_subD, ↓W_addI, ↓W_addS, ↓W_addT, ↓W_mulI, ↓W_fdiv, ↓W_mod, ↓W_neg, ↓W_ord, ↓W_isi, ↓W_is, ↓W_isnt, ↓W_lenT, ↓W_lenN, ↓W_intI, ↓W_intB, ↓W_abs, ↓W_max2, ↓W_min2, ↓W_divmod, ↓W_tupleT, ↓W_tupleN, ↓W_listT, ↓W_eqI, ↓W_neI, ↓W_eqB, ↓W_neB, ↓W_ix0, ↓W_ix1, ↓W_ix2, ↓its_new, ↓its_tup, ↓lst_new, En.pick, List.filterMap_cons, List.filterMap_nil, tyN, tyM, isT, truD, En.isNon, startE, wipeE, List.map_cons, List.map_nil, List.length_cons, List.length_nil, List.cons_append, List.nil_append, List.replicate_succ, List.replicate_zero, List.getElem?_cons_succ, List.getElem?_cons_zero, List.set_cons_succ, List.set_cons_zero, Nat.reduceSub, Nat.reduceAdd, Nat.zero_add, Nat.reduceLeDiff, Nat.sub_self, Bool.not_true, Bool.not_false, Bool.true_and, Bool.and_true, Bool.false_and, Bool.and_false, Bool.or_true, Bool.true_or, Bool.false_or, Bool.or_false, Bool.false_eq_true, if_true, if_false, ite_true, ite_false, true_and, and_true, decide_true, decide_false, String.reduceBEq, beq_self_eq_true, bne_self_eq_false, Bool.or_self, Bool.and_self, reduceCtorEq, Option.some.injEq, Bool.decide_eq_true, decide_eq_true_eq]
        exact bad 30 _ (by rw [eo]; simp [okAt]) s
      · have e30 : ((i : Int) == 30) = false := by simp; omega
        have e30' : (i == 30) = false := by simp; exact c30
        simp only [e30, ↓W_sortSet, ↓W_slT, ↓W_var, ↓W_C, ↓W_bin, ↓W_un, ↓W_chain, ↓W_tru, ↓W_tst, ↓W_notT, ↓W_andT, ↓W_orT, ↓W_andV, ↓W_orV, ↓W_notV, ↓W_if, ↓W_nil, ↓W_cons, ↓W_tup, ↓W_lst, ↓W_call, ↓W_callK, ↓W_noPart, ↓W_part, ↓W_sl, ↓W_meth, ↓W_asg, ↓W_name, ↓W_gnil, ↓W_gcons, ↓W_gseq, ↓W_gsub, ↓W_expr, ↓W_ret, ↓W_retN, ↓W_sif, ↓W_next, ↓W_brk, ↓W_cont, ↓W_sbad, ↓W_seq, ↓W_par2, ↓W_par3, ↓W_for, ↓W_lc, ↓W_yes, ↓W_iseq, ↓W_ienum, ↓W_rng1, ↓W_rng2, ↓W_while, ↓W_fun, ↓W_subD, ↓W_addI, ↓W_addS, ↓W_addT, ↓W_mulI, ↓W_fdiv, ↓W_mod, ↓W_neg, ↓W_ord, ↓W_isi, ↓W_is, ↓W_isnt, ↓W_lenT, ↓W_lenN, ↓W_intI, ↓W_intB, ↓W_abs, ↓W_max2, ↓W_min2, ↓W_divmod, ↓W_tupleT, ↓W_tupleN, ↓W_listT, ↓W_eqI, ↓W_neI, ↓W_eqB, ↓W_neB, ↓W_ix0, ↓W_ix1, ↓W_ix2, ↓its_new, ↓its_tup, ↓lst_new, En.pick, List.filterMap_cons, List.filterMap_nil, tyN, tyM, isT, truD, En.isNon, startE, wipeE, List.map_cons, List.map_nil, List.length_cons, List.length_nil, List.cons_append, List.nil_append, List.replicate_succ, List.replicate_zero, List.getElem?_cons_succ, List.getElem?_cons_zero, List.set_cons_succ, List.set_cons_zero, Nat.reduceSub, Nat.reduceAdd, Nat.zero_add, Nat.reduceLeDiff, Nat.sub_self, Bool.not_true, Bool.not_false, Bool.true_and, Bool.and_true, Bool.false_and, Bool.and_false, Bool.or_true, Bool.true_or, Bool.false_or, Bool.or_false, Bool.false_eq_true, if_true, if_false, ite_true, ite_false, true_and, and_true, decide_true, decide_false, String.reduceBEq, beq_self_eq_true, bne_self_eq_false, Bool.or_self, Bool.and_self, reduceCtorEq, Option.some.injEq, Bool.decide_eq_true, decide_eq_true_eq]
        by_cases c0 : i = 0
        · subst c0
          simp only [show (((0 : Nat) : Int) == 0) = true from rfl, show ¬ ((0 : Int) < ((0 : Nat) : Int)) from by omega, ↓W_sortSet, ↓W_slT, ↓W_var, ↓W_C, ↓W_bin, ↓W_un, ↓W_chain, ↓W_tru, ↓W_tst, ↓W_notT, ↓W_andT, ↓W_orT, ↓W_andV, ↓W_orV, ↓W_notV, ↓W_if, ↓W_nil, ↓W_cons, ↓W_tup, ↓W_lst, ↓W_call, ↓W_callK, ↓W_noPart, ↓W_part, ↓W_sl, ↓W_meth, ↓W_asg, ↓W_name, ↓W_gnil, ↓W_gcons, ↓W_gseq, ↓W_gsub, ↓W_expr, ↓W_ret, ↓W_retN, ↓W_sif, ↓W_next, ↓W_brk, ↓W_cont, ↓W_sbad, ↓W_seq, ↓W_par2, ↓W_par3, ↓W_for, ↓W_lc, ↓W_yes, ↓W_iseq, ↓W_ienum, ↓W_rng1, ↓W_rng2, ↓W_while, ↓W_fun, ↓W_subD, ↓W_addI, ↓W_addS, ↓W_addT, ↓W_mulI, ↓W_fdiv, ↓W_mod, ↓W_neg, ↓W_ord, ↓W_isi, ↓W_is, ↓W_isnt, ↓W_lenT, ↓W_lenN, ↓W_intI, ↓W_intB, ↓W_abs, ↓W_max2, ↓W_min2, ↓W_divmod, ↓W_tupleT, ↓W_tupleN, ↓W_listT, ↓W_eqI, ↓W_neI, ↓W_eqB, ↓W_neB, ↓W_ix0, ↓W_ix1, ↓W_ix2, ↓its_new, ↓its_tup, ↓lst_new, En.pick, List.filterMap_cons, List.filterMap_nil, tyN, tyM, isT, truD, En.isNon, startE, wipeE, List.map_cons, List.map_nil, List.length_cons, List.length_nil, List.cons_append, List.nil_append, List.replicate_succ, List.replicate_zero, List.getElem?_cons_succ, List.getElem?_cons_zero, List.set_cons_succ, List.set_cons_zero, Nat.reduceSub, Nat.reduceAdd, Nat.zero_add, Nat.reduceLeDiff, Nat.sub_self, Bool.not_true, Bool.not_false, Bool.true_and, Bool.and_true, Bool.false_and, Bool.and_false, Bool.or_true, Bool.true_or, Bool.false_or, Bool.or_false, Bool.false_eq_true, if_true, if_false, ite_true, ite_false, true_and, and_true, decide_true, decide_false, String.reduceBEq, beq_self_eq_true, bne_self_eq_false, Bool.or_self, Bool.and_self, reduceCtorEq, Option.some.injEq, Bool.decide_eq_true, decide_eq_true_eq]
          cases c1 : (l[0] == (1 : Int)) with
          | false =>
            simp only [c1, ↓W_sortSet, ↓W_slT, ↓W_var, ↓W_C, ↓W_bin, ↓W_un, ↓W_chain, ↓W_tru, ↓W_tst, ↓W_notT, ↓W_andT, ↓W_orT, ↓W_andV, ↓W_orV, ↓W_notV, ↓W_if, ↓W_nil, ↓W_cons, ↓W_tup, ↓W_lst, ↓W_call, ↓W_callK, ↓W_noPart, ↓W_part, ↓W_sl, ↓W_meth, ↓W_asg, ↓W_name, ↓W_gnil, ↓W_gcons, ↓W_gseq, ↓W_gsub, ↓W_expr, ↓W_ret, ↓W_retN, ↓W_sif, ↓W_next, ↓W_brk, ↓W_cont, ↓W_sbad, ↓W_seq, ↓W_par2, ↓W_par3, ↓W_for, ↓W_lc, ↓W_yes, ↓W_iseq, ↓W_ienum, ↓W_rng1, ↓W_rng2, ↓W_while, ↓W_fun, ↓W_subD, ↓W_addI, ↓W_addS, ↓W_addT, ↓W_mulI, ↓W_fdiv, ↓W_mod, ↓W_neg, ↓W_ord, ↓W_isi, ↓W_is, ↓W_isnt, ↓W_lenT, ↓W_lenN, ↓W_intI, ↓W_intB, ↓W_abs, ↓W_max2, ↓W_min2, ↓W_divmod, ↓W_tupleT, ↓W_tupleN, ↓W_listT, ↓W_eqI, ↓W_neI, ↓W_eqB, ↓W_neB, ↓W_ix0, ↓W_ix1, ↓W_ix2, ↓its_new, ↓its_tup, ↓lst_new, En.pick, List.filterMap_cons, List.filterMap_nil, tyN, tyM, isT, truD, En.isNon, startE, wipeE, List.map_cons, List.map_nil, List.length_cons, List.length_nil, List.cons_append, List.nil_append, List.replicate_succ, List.replicate_zero, List.getElem?_cons_succ, List.getElem?_cons_zero, List.set_cons_succ, List.set_cons_zero, Nat.reduceSub, Nat.reduceAdd, Nat.zero_add, Nat.reduceLeDiff, Nat.sub_self, Bool.not_true, Bool.not_false, Bool.true_and, Bool.and_true, Bool.false_and, Bool.and_false, Bool.or_true, Bool.true_or, Bool.false_or, Bool.or_false, Bool.false_eq_true, if_true, if_false, ite_true, ite_false, true_and, and_true, decide_true, decide_false, String.reduceBEq, beq_self_eq_true, bne_self_eq_false, Bool.or_self, Bool.and_self, reduceCtorEq, Option.some.injEq, Bool.decide_eq_true, decide_eq_true_eq]
            exact bad 0 _ (by rw [eo]; simp [okAt, at_eq hj, c1]) s
          | true =>
            simp only [c1, ↓W_sortSet, ↓W_slT, ↓W_var, ↓W_C, ↓W_bin, ↓W_un, ↓W_chain, ↓W_tru, ↓W_tst, ↓W_notT, ↓W_andT, ↓W_orT, ↓W_andV, ↓W_orV, ↓W_notV, ↓W_if, ↓W_nil, ↓W_cons, ↓W_tup, ↓W_lst, ↓W_call, ↓W_callK, ↓W_noPart, ↓W_part, ↓W_sl, ↓W_meth, ↓W_asg, ↓W_name, ↓W_gnil, ↓W_gcons, ↓W_gseq, ↓W_gsub, ↓W_expr, ↓W_ret, ↓W_retN, ↓W_sif, ↓W_next, ↓W_brk, ↓W_cont, ↓W_sbad, ↓W_seq, ↓W_par2, ↓W_par3, ↓W_for, ↓W_lc, ↓W_yes, ↓W_iseq, ↓W_ienum, ↓W_rng1, ↓W_rng2, ↓W_while, ↓W_fun, ↓W_subD, ↓W_addI, ↓W_addS, ↓W_addT, ↓W_mulI, ↓W_fdiv, ↓W_mod, ↓W_neg, ↓W_ord, ↓W_isi, ↓W_is, ↓W_isnt, ↓W_lenT, ↓W_lenN, ↓W_intI, ↓W_intB, ↓W_abs, ↓W_max2, ↓W_min2, ↓W_divmod, ↓W_tupleT, ↓W_tupleN, ↓W_listT, ↓W_eqI, ↓W_neI, ↓W_eqB, ↓W_neB, ↓W_ix0, ↓W_ix1, ↓W_ix2, ↓its_new, ↓its_tup, ↓lst_new, En.pick, List.filterMap_cons, List.filterMap_nil, tyN, tyM, isT, truD, En.isNon, startE, wipeE, List.map_cons, List.map_nil, List.length_cons, List.length_nil, List.cons_append, List.nil_append, List.replicate_succ, List.replicate_zero, List.getElem?_cons_succ, List.getElem?_cons_zero, List.set_cons_succ, List.set_cons_zero, Nat.reduceSub, Nat.reduceAdd, Nat.zero_add, Nat.reduceLeDiff, Nat.sub_self, Bool.not_true, Bool.not_false, Bool.true_and, Bool.and_true, Bool.false_and, Bool.and_false, Bool.or_true, Bool.true_or, Bool.false_or, Bool.or_false, Bool.false_eq_true, if_true, if_false, ite_true, ite_false, true_and, and_true, decide_true, decide_false, String.reduceBEq, beq_self_eq_true, bne_self_eq_false, Bool.or_self, Bool.and_self, reduceCtorEq, Option.some.injEq, Bool.decide_eq_true, decide_eq_true_eq]
            exact ⟨s, 1, _, _, rfl, by omega, by rw [eo]; simp only [okAt, at_eq hj, c1]; rw [show l.length - 1 = n from by omega]; rfl, rfl⟩
        · have e0 : ((i : Int) == 0) = false := by simp; omega
          have g0 : (0 : Int) < (i : Int) := by omega
          simp only [e0, g0, ↓W_sortSet, ↓W_slT, ↓W_var, ↓W_C, ↓W_bin, ↓W_un, ↓W_chain, ↓W_tru, ↓W_tst, ↓W_notT, ↓W_andT, ↓W_orT, ↓W_andV, ↓W_orV, ↓W_notV, ↓W_if, ↓W_nil, ↓W_cons, ↓W_tup, ↓W_lst, ↓W_call, ↓W_callK, ↓W_noPart, ↓W_part, ↓W_sl, ↓W_meth, ↓W_asg, ↓W_name, ↓W_gnil, ↓W_gcons, ↓W_gseq, ↓W_gsub, ↓W_expr, ↓W_ret, ↓W_retN, ↓W_sif, ↓W_next, ↓W_brk, ↓W_cont, ↓W_sbad, ↓W_seq, ↓W_par2, ↓W_par3, ↓W_for, ↓W_lc, ↓W_yes, ↓W_iseq, ↓W_ienum, ↓W_rng1, ↓W_rng2, ↓W_while, ↓W_fun, ↓W_subD, ↓W_addI, ↓W_addS, ↓W_addT, ↓W_mulI, ↓W_fdiv, ↓W_mod, ↓W_neg, ↓W_ord, ↓W_isi, ↓W_is, ↓W_isnt, ↓W_lenT, ↓W_lenN, ↓W_intI, ↓W_intB, ↓W_abs, ↓W_max2, ↓W_min2, ↓W_divmod, ↓W_tupleT, ↓W_tupleN, ↓W_listT, ↓W_eqI, ↓W_neI, ↓W_eqB, ↓W_neB, ↓W_ix0, ↓W_ix1, ↓W_ix2, ↓its_new, ↓its_tup, ↓lst_new, En.pick, List.filterMap_cons, List.filterMap_nil, tyN, tyM, isT, truD, En.isNon, startE, wipeE, List.map_cons, List.map_nil, List.length_cons, List.length_nil, List.cons_append, List.nil_append, List.replicate_succ, List.replicate_zero, List.getElem?_cons_succ, List.getElem?_cons_zero, List.set_cons_succ, List.set_cons_zero, Nat.reduceSub, Nat.reduceAdd, Nat.zero_add, Nat.reduceLeDiff, Nat.sub_self, Bool.not_true, Bool.not_false, Bool.true_and, Bool.and_true, Bool.false_and, Bool.and_false, Bool.or_true, Bool.true_or, Bool.false_or, Bool.or_false, Bool.false_eq_true, if_true, if_false, ite_true, ite_false, true_and, and_true, decide_true, decide_false, String.reduceBEq, beq_self_eq_true, bne_self_eq_false, Bool.or_self, Bool.and_self, reduceCtorEq, Option.some.injEq, Bool.decide_eq_true, decide_eq_true_eq]
          rw [show ((i : Int) - 1) = ((i - 1 : Nat) : Int) from by omega, W_ixN its_tup (int_at (i := i - 1) (by omega))]
          simp only [W_slT, ↓W_sortSet, ↓W_slT, ↓W_var, ↓W_C, ↓W_bin, ↓W_un, ↓W_chain, ↓W_tru, ↓W_tst, ↓W_notT, ↓W_andT, ↓W_orT, ↓W_andV, ↓W_orV, ↓W_notV, ↓W_if, ↓W_nil, ↓W_cons, ↓W_tup, ↓W_lst, ↓W_call, ↓W_callK, ↓W_noPart, ↓W_part, ↓W_sl, ↓W_meth, ↓W_asg, ↓W_name, ↓W_gnil, ↓W_gcons, ↓W_gseq, ↓W_gsub, ↓W_expr, ↓W_ret, ↓W_retN, ↓W_sif, ↓W_next, ↓W_brk, ↓W_cont, ↓W_sbad, ↓W_seq, ↓W_par2, ↓W_par3, ↓W_for, ↓W_lc, ↓W_yes, ↓W_iseq, ↓W_ienum, ↓W_rng1, ↓W_rng2, ↓W_while, ↓W_fun, ↓W_subD, ↓W_addI, ↓W_addS, ↓W_addT, ↓W_mulI, ↓W_fdiv, ↓W_mod, ↓W_neg, ↓W_ord, ↓W_isi, ↓W_is, ↓W_isnt, ↓W_lenT, ↓W_lenN, ↓W_intI, ↓W_intB, ↓W_abs, ↓W_max2, ↓W_min2, ↓W_divmod, ↓W_tupleT, ↓W_tupleN, ↓W_listT, ↓W_eqI, ↓W_neI, ↓W_eqB, ↓W_neB, ↓W_ix0, ↓W_ix1, ↓W_ix2, ↓its_new, ↓its_tup, ↓lst_new, En.pick, List.filterMap_cons, List.filterMap_nil, tyN, tyM, isT, truD, En.isNon, startE, wipeE, List.map_cons, List.map_nil, List.length_cons, List.length_nil, List.cons_append, List.nil_append, List.replicate_succ, List.replicate_zero, List.getElem?_cons_succ, List.getElem?_cons_zero, List.set_cons_succ, List.set_cons_zero, Nat.reduceSub, Nat.reduceAdd, Nat.zero_add, Nat.reduceLeDiff, Nat.sub_self, Bool.not_true, Bool.not_false, Bool.true_and, Bool.and_true, Bool.false_and, Bool.and_false, Bool.or_true, Bool.true_or, Bool.false_or, Bool.or_false, Bool.false_eq_true, if_true, if_false, ite_true, ite_false, true_and, and_true, decide_true, decide_false, String.reduceBEq, beq_self_eq_true, bne_self_eq_false, Bool.or_self, Bool.and_self, reduceCtorEq, Option.some.injEq, Bool.decide_eq_true, decide_eq_true_eq]
          rw [cut_take (by rw [List.length_map]; omega), map_take]
          have oa : okAt l i = (decide (at' l (i - 1) < at' l i) && sumIn (l.take i) (at' l i)) := by
            simp only [okAt, e30', if_neg c0, Bool.not_false, Bool.true_and]
          by_cases cl : l[i] ≤ at' l (i - 1)
          · simp only [cl, ↓W_sortSet, ↓W_slT, ↓W_var, ↓W_C, ↓W_bin, ↓W_un, ↓W_chain, ↓W_tru, ↓W_tst, ↓W_notT, ↓W_andT, ↓W_orT, ↓W_andV, ↓W_orV, ↓W_notV, ↓W_if, ↓W_nil, ↓W_cons, ↓W_tup, ↓W_lst, ↓W_call, ↓W_callK, ↓W_noPart, ↓W_part, ↓W_sl, ↓W_meth, ↓W_asg, ↓W_name, ↓W_gnil, ↓W_gcons, ↓W_gseq, ↓W_gsub, ↓W_expr, ↓W_ret, ↓W_retN, ↓W_sif, ↓W_next, ↓W_brk, ↓W_cont, ↓W_sbad, ↓W_seq, ↓W_par2, ↓W_par3, ↓W_for, ↓W_lc, ↓W_yes, ↓W_iseq, ↓W_ienum, ↓W_rng1, ↓W_rng2, ↓W_while, ↓W_fun, ↓W_subD, ↓W_addI, ↓W_addS, ↓W_addT, ↓W_mulI, ↓W_fdiv, ↓W_mod, ↓W_neg, ↓W_ord, ↓W_isi, ↓W_is, ↓W_isnt, ↓W_lenT, ↓W_lenN, ↓W_intI, ↓W_intB, ↓W_abs, ↓W_max2, ↓W_min2, ↓W_divmod, ↓W_tupleT, ↓W_tupleN, ↓W_listT, ↓W_eqI, ↓W_neI, ↓W_eqB, ↓W_neB, ↓W_ix0, ↓W_ix1, ↓W_ix2, ↓its_new, ↓its_tup, ↓lst_new, En.pick, List.filterMap_cons, List.filterMap_nil, tyN, tyM, isT, truD, En.isNon, startE, wipeE, List.map_cons, List.map_nil, List.length_cons, List.length_nil, List.cons_append, List.nil_append, List.replicate_succ, List.replicate_zero, List.getElem?_cons_succ, List.getElem?_cons_zero, List.set_cons_succ, List.set_cons_zero, Nat.reduceSub, Nat.reduceAdd, Nat.zero_add, Nat.reduceLeDiff, Nat.sub_self, Bool.not_true, Bool.not_false, Bool.true_and, Bool.and_true, Bool.false_and, Bool.and_false, Bool.or_true, Bool.true_or, Bool.false_or, Bool.or_false, Bool.false_eq_true, if_true, if_false, ite_true, ite_false, true_and, and_true, decide_true, decide_false, String.reduceBEq, beq_self_eq_true, bne_self_eq_false, Bool.or_self, Bool.and_self, reduceCtorEq, Option.some.injEq, Bool.decide_eq_true, decide_eq_true_eq]
            exact bad i _ (by rw [eo, oa, at_eq hj, decide_eq_false (by omega)]; rfl) s
          · simp only [cl, ↓W_sortSet, ↓W_slT, ↓W_var, ↓W_C, ↓W_bin, ↓W_un, ↓W_chain, ↓W_tru, ↓W_tst, ↓W_notT, ↓W_andT, ↓W_orT, ↓W_andV, ↓W_orV, ↓W_notV, ↓W_if, ↓W_nil, ↓W_cons, ↓W_tup, ↓W_lst, ↓W_call, ↓W_callK, ↓W_noPart, ↓W_part, ↓W_sl, ↓W_meth, ↓W_asg, ↓W_name, ↓W_gnil, ↓W_gcons, ↓W_gseq, ↓W_gsub, ↓W_expr, ↓W_ret, ↓W_retN, ↓W_sif, ↓W_next, ↓W_brk, ↓W_cont, ↓W_sbad, ↓W_seq, ↓W_par2, ↓W_par3, ↓W_for, ↓W_lc, ↓W_yes, ↓W_iseq, ↓W_ienum, ↓W_rng1, ↓W_rng2, ↓W_while, ↓W_fun, ↓W_subD, ↓W_addI, ↓W_addS, ↓W_addT, ↓W_mulI, ↓W_fdiv, ↓W_mod, ↓W_neg, ↓W_ord, ↓W_isi, ↓W_is, ↓W_isnt, ↓W_lenT, ↓W_lenN, ↓W_intI, ↓W_intB, ↓W_abs, ↓W_max2, ↓W_min2, ↓W_divmod, ↓W_tupleT, ↓W_tupleN, ↓W_listT, ↓W_eqI, ↓W_neI, ↓W_eqB, ↓W_neB, ↓W_ix0, ↓W_ix1, ↓W_ix2, ↓its_new, ↓its_tup, ↓lst_new, En.pick, List.filterMap_cons, List.filterMap_nil, tyN, tyM, isT, truD, En.isNon, startE, wipeE, List.map_cons, List.map_nil, List.length_cons, List.length_nil, List.cons_append, List.nil_append, List.replicate_succ, List.replicate_zero, List.getElem?_cons_succ, List.getElem?_cons_zero, List.set_cons_succ, List.set_cons_zero, Nat.reduceSub, Nat.reduceAdd, Nat.zero_add, Nat.reduceLeDiff, Nat.sub_self, Bool.not_true, Bool.not_false, Bool.true_and, Bool.and_true, Bool.false_and, Bool.and_false, Bool.or_true, Bool.true_or, Bool.false_or, Bool.or_false, Bool.false_eq_true, if_true, if_false, ite_true, ite_false, true_and, and_true, decide_true, decide_false, String.reduceBEq, beq_self_eq_true, bne_self_eq_false, Bool.or_self, Bool.and_self, reduceCtorEq, Option.some.injEq, Bool.decide_eq_true, decide_eq_true_eq]
            refine (sum_in_pu (l := l.take i) (by rw [List.length_take]; omega)).use fun S2 s2 => ?_
            try simp only [↓W_sortSet, ↓W_slT, ↓W_var, ↓W_C, ↓W_bin, ↓W_un, ↓W_chain, ↓W_tru, ↓W_tst, ↓W_notT, ↓W_andT, ↓W_orT, ↓W_andV, ↓W_orV, ↓W_notV, ↓W_if, ↓W_nil, ↓W_cons, ↓W_tup, ↓W_lst, ↓W_call, ↓W_callK, ↓W_noPart, ↓W_part, ↓W_sl, ↓W_meth, ↓W_asg, ↓W_name, ↓W_gnil, ↓W_gcons, ↓W_gseq, ↓W_gsub, ↓W_expr, ↓W_ret, ↓W_retN, ↓W_sif, ↓W_next, ↓W_brk, ↓W_cont, ↓W_sbad, ↓W_seq, ↓W_par2, ↓W_par3, ↓W_for, ↓W_lc, ↓W_yes, ↓W_iseq, ↓W_ienum, ↓W_rng1, ↓W_rng2, ↓W_while, ↓W_fun, ↓W_subD, ↓W_addI, ↓W_addS, ↓W_addT, ↓W_mulI, ↓W_fdiv, ↓W_mod, ↓W_neg, ↓W_ord, ↓W_isi, ↓W_is, ↓W_isnt, ↓W_lenT, ↓W_lenN, ↓W_intI, ↓W_intB, ↓W_abs, ↓W_max2, ↓W_min2, ↓W_divmod, ↓W_tupleT, ↓W_tupleN, ↓W_listT, ↓W_eqI, ↓W_neI, ↓W_eqB, ↓W_neB, ↓W_ix0, ↓W_ix1, ↓W_ix2, ↓its_new, ↓its_tup, ↓lst_new, En.pick, List.filterMap_cons, List.filterMap_nil, tyN, tyM, isT, truD, En.isNon, startE, wipeE, List.map_cons, List.map_nil, List.length_cons, List.length_nil, List.cons_append, List.nil_append, List.replicate_succ, List.replicate_zero, List.getElem?_cons_succ, List.getElem?_cons_zero, List.set_cons_succ, List.set_cons_zero, Nat.reduceSub, Nat.reduceAdd, Nat.zero_add, Nat.reduceLeDiff, Nat.sub_self, Bool.not_true, Bool.not_false, Bool.true_and, Bool.and_true, Bool.false_and, Bool.and_false, Bool.or_true, Bool.true_or, Bool.false_or, Bool.or_false, Bool.false_eq_true, if_true, if_false, ite_true, ite_false, true_and, and_true, decide_true, decide_false, String.reduceBEq, beq_self_eq_true, bne_self_eq_false, Bool.or_self, Bool.and_self, reduceCtorEq, Option.some.injEq, Bool.decide_eq_true, decide_eq_true_eq]
            cases cs : sumIn (l.take i) l[i] with
            | false =>
              simp only [↓W_sortSet, ↓W_slT, ↓W_var, ↓W_C, ↓W_bin, ↓W_un, ↓W_chain, ↓W_tru, ↓W_tst, ↓W_notT, ↓W_andT, ↓W_orT, ↓W_andV, ↓W_orV, ↓W_notV, ↓W_if, ↓W_nil, ↓W_cons, ↓W_tup, ↓W_lst, ↓W_call, ↓W_callK, ↓W_noPart, ↓W_part, ↓W_sl, ↓W_meth, ↓W_asg, ↓W_name, ↓W_gnil, ↓W_gcons, ↓W_gseq, ↓W_gsub, ↓W_expr, ↓W_ret, ↓W_retN, ↓W_sif, ↓W_next, ↓W_brk, ↓W_cont, ↓W_sbad, ↓W_seq, ↓W_par2, ↓W_par3, ↓W_for, ↓W_lc, ↓W_yes, ↓W_iseq, ↓W_ienum, ↓W_rng1, ↓W_rng2, ↓W_while, ↓W_fun, ↓W_subD, ↓W_addI, ↓W_addS, ↓W_addT, ↓W_mulI, ↓W_fdiv, ↓W_mod, ↓W_neg, ↓W_ord, ↓W_isi, ↓W_is, ↓W_isnt, ↓W_lenT, ↓W_lenN, ↓W_intI, ↓W_intB, ↓W_abs, ↓W_max2, ↓W_min2, ↓W_divmod, ↓W_tupleT, ↓W_tupleN, ↓W_listT, ↓W_eqI, ↓W_neI, ↓W_eqB, ↓W_neB, ↓W_ix0, ↓W_ix1, ↓W_ix2, ↓its_new, ↓its_tup, ↓lst_new, En.pick, List.filterMap_cons, List.filterMap_nil, tyN, tyM, isT, truD, En.isNon, startE, wipeE, List.map_cons, List.map_nil, List.length_cons, List.length_nil, List.cons_append, List.nil_append, List.replicate_succ, List.replicate_zero, List.getElem?_cons_succ, List.getElem?_cons_zero, List.set_cons_succ, List.set_cons_zero, Nat.reduceSub, Nat.reduceAdd, Nat.zero_add, Nat.reduceLeDiff, Nat.sub_self, Bool.not_true, Bool.not_false, Bool.true_and, Bool.and_true, Bool.false_and, Bool.and_false, Bool.or_true, Bool.true_or, Bool.false_or, Bool.or_false, Bool.false_eq_true, if_true, if_false, ite_true, ite_false, true_and, and_true, decide_true, decide_false, String.reduceBEq, beq_self_eq_true, bne_self_eq_false, Bool.or_self, Bool.and_self, reduceCtorEq, Option.some.injEq, Bool.decide_eq_true, decide_eq_true_eq]
              exact bad i _ (by rw [eo, oa, at_eq hj, cs, Bool.and_false]; rfl) (s.trans s2)
            | true =>
              simp only [↓W_sortSet, ↓W_slT, ↓W_var, ↓W_C, ↓W_bin, ↓W_un, ↓W_chain, ↓W_tru, ↓W_tst, ↓W_notT, ↓W_andT, ↓W_orT, ↓W_andV, ↓W_orV, ↓W_notV, ↓W_if, ↓W_nil, ↓W_cons, ↓W_tup, ↓W_lst, ↓W_call, ↓W_callK, ↓W_noPart, ↓W_part, ↓W_sl, ↓W_meth, ↓W_asg, ↓W_name, ↓W_gnil, ↓W_gcons, ↓W_gseq, ↓W_gsub, ↓W_expr, ↓W_ret, ↓W_retN, ↓W_sif, ↓W_next, ↓W_brk, ↓W_cont, ↓W_sbad, ↓W_seq, ↓W_par2, ↓W_par3, ↓W_for, ↓W_lc, ↓W_yes, ↓W_iseq, ↓W_ienum, ↓W_rng1, ↓W_rng2, ↓W_while, ↓W_fun, ↓W_subD, ↓W_addI, ↓W_addS, ↓W_addT, ↓W_mulI, ↓W_fdiv, ↓W_mod, ↓W_neg, ↓W_ord, ↓W_isi, ↓W_is, ↓W_isnt, ↓W_lenT, ↓W_lenN, ↓W_intI, ↓W_intB, ↓W_abs, ↓W_max2, ↓W_min2, ↓W_divmod, ↓W_tupleT, ↓W_tupleN, ↓W_listT, ↓W_eqI, ↓W_neI, ↓W_eqB, ↓W_neB, ↓W_ix0, ↓W_ix1, ↓W_ix2, ↓its_new, ↓its_tup, ↓lst_new, En.pick, List.filterMap_cons, List.filterMap_nil, tyN, tyM, isT, truD, En.isNon, startE, wipeE, List.map_cons, List.map_nil, List.length_cons, List.length_nil, List.cons_append, List.nil_append, List.replicate_succ, List.replicate_zero, List.getElem?_cons_succ, List.getElem?_cons_zero, List.set_cons_succ, List.set_cons_zero, Nat.reduceSub, Nat.reduceAdd, Nat.zero_add, Nat.reduceLeDiff, Nat.sub_self, Bool.not_true, Bool.not_false, Bool.true_and, Bool.and_true, Bool.false_and, Bool.and_false, Bool.or_true, Bool.true_or, Bool.false_or, Bool.or_false, Bool.false_eq_true, if_true, if_false, ite_true, ite_false, true_and, and_true, decide_true, decide_false, String.reduceBEq, beq_self_eq_true, bne_self_eq_false, Bool.or_self, Bool.and_self, reduceCtorEq, Option.some.injEq, Bool.decide_eq_true, decide_eq_true_eq]
              exact ⟨s.trans s2, i + 1, _, _, rfl, by omega, by rw [eo, oa, at_eq hj, cs, decide_eq_true (by omega), show l.length - (i + 1) = n from by omega]; rfl, rfl⟩
    · rintro ρ S1 ⟨s, j, x1, x2, er, hj, eo, rfl⟩
      refine ⟨rfl, ?_⟩
      try simp only [↓W_sortSet, ↓W_slT, ↓W_var, ↓W_C, ↓W_bin, ↓W_un, ↓W_chain, ↓W_tru, ↓W_tst, ↓W_notT, ↓W_andT, ↓W_orT, ↓W_andV, ↓W_orV, ↓W_notV, ↓W_if, ↓W_nil, ↓W_cons, ↓W_tup, ↓W_lst, ↓W_call, ↓W_callK, ↓W_noPart, ↓W_part, ↓W_sl, ↓W_meth, ↓W_asg, ↓W_name, ↓W_gnil, ↓W_gcons, ↓W_gseq, ↓W_gsub, ↓W_expr, ↓W_ret, ↓W_retN, ↓W_sif, ↓W_next, ↓W_brk, ↓W_cont, ↓W_sbad, ↓W_seq, ↓W_par2, ↓W_par3, ↓W_for, ↓W_lc, ↓W_yes, ↓W_iseq, ↓W_ienum, ↓W_rng1, ↓W_rng2, ↓W_while, ↓W_fun, ↓W_subD, ↓W_addI, ↓W_addS, ↓W_addT, ↓W_mulI, ↓W_fdiv, ↓W_mod, ↓W_neg, ↓W_ord, ↓W_isi, ↓W_is, ↓W_isnt, ↓W_lenT, ↓W_lenN, ↓W_intI, ↓W_intB, ↓W_abs, ↓W_max2, ↓W_min2, ↓W_divmod, ↓W_tupleT, ↓W_tupleN, ↓W_listT, ↓W_eqI, ↓W_neI, ↓W_eqB, ↓W_neB, ↓W_ix0, ↓W_ix1, ↓W_ix2, ↓its_new, ↓its_tup, ↓lst_new, En.pick, List.filterMap_cons, List.filterMap_nil, tyN, tyM, isT, truD, En.isNon, startE, wipeE, List.map_cons, List.map_nil, List.length_cons, List.length_nil, List.cons_append, List.nil_append, List.replicate_succ, List.replicate_zero, List.getElem?_cons_succ, List.getElem?_cons_zero, List.set_cons_succ, List.set_cons_zero, Nat.reduceSub, Nat.reduceAdd, Nat.zero_add, Nat.reduceLeDiff, Nat.sub_self, Bool.not_true, Bool.not_false, Bool.true_and, Bool.and_true, Bool.false_and, Bool.and_false, Bool.or_true, Bool.true_or, Bool.false_or, Bool.or_false, Bool.false_eq_true, if_true, if_false, ite_true, ite_false, true_and, and_true, decide_true, decide_false, String.reduceBEq, beq_self_eq_true, bne_self_eq_false, Bool.or_self, Bool.and_self, reduceCtorEq, Option.some.injEq, Bool.decide_eq_true, decide_eq_true_eq]
      have := drop_zip0 er
      refine ⟨Nat.zero_le _, k _ _ _ s.new at_new ?_ (by intro x hx; cases hx)⟩
      rw [show l.length - j = 0 from by omega] at eo
      simp only [rowOk, hne', eo, okFrom]; rfl
theorem is_row_value_pu {l : List Int} (hl : l.length ≤ 1000000) : Pu m_is_row_value [tupI l] (.bl (rowOk l)) := fun S => by
  simp only [m_is_row_value, ↓W_sortSet, ↓W_slT, ↓W_var, ↓W_C, ↓W_bin, ↓W_un, ↓W_chain, ↓W_tru, ↓W_tst, ↓W_notT, ↓W_andT, ↓W_orT, ↓W_andV, ↓W_orV, ↓W_notV, ↓W_if, ↓W_nil, ↓W_cons, ↓W_tup, ↓W_lst, ↓W_call, ↓W_callK, ↓W_noPart, ↓W_part, ↓W_sl, ↓W_meth, ↓W_asg, ↓W_name, ↓W_gnil, ↓W_gcons, ↓W_gseq, ↓W_gsub, ↓W_expr, ↓W_ret, ↓W_retN, ↓W_sif, ↓W_next, ↓W_brk, ↓W_cont, ↓W_sbad, ↓W_seq, ↓W_par2, ↓W_par3, ↓W_for, ↓W_lc, ↓W_yes, ↓W_iseq, ↓W_ienum, ↓W_rng1, ↓W_rng2, ↓W_while, ↓W_fun, ↓W_subD, ↓W_addI, ↓W_addS, ↓W_addT, ↓W_mulI, ↓W_fdiv, ↓W_mod, ↓W_neg, ↓W_ord, ↓W_isi, ↓W_is, ↓W_isnt, ↓W_lenT, ↓W_lenN, ↓W_intI, ↓W_intB, ↓W_abs, ↓W_max2, ↓W_min2, ↓W_divmod, ↓W_tupleT, ↓W_tupleN, ↓W_listT, ↓W_eqI, ↓W_neI, ↓W_eqB, ↓W_neB, ↓W_ix0, ↓W_ix1, ↓W_ix2, ↓its_new, ↓its_tup, ↓lst_new, En.pick, List.filterMap_cons, List.filterMap_nil, tyN, tyM, isT, truD, En.isNon, startE, wipeE, List.map_cons, List.map_nil, List.length_cons, List.length_nil, List.cons_append, List.nil_append, List.replicate_succ, List.replicate_zero, List.getElem?_cons_succ, List.getElem?_cons_zero, List.set_cons_succ, List.set_cons_zero, Nat.reduceSub, Nat.reduceAdd, Nat.zero_add, Nat.reduceLeDiff, Nat.sub_self, Bool.not_true, Bool.not_false, Bool.true_and, Bool.and_true, Bool.false_and, Bool.and_false, Bool.or_true, Bool.true_or, Bool.false_or, Bool.or_false, Bool.false_eq_true, if_true, if_false, ite_true, ite_false, true_and, and_true, decide_true, decide_false, String.reduceBEq, beq_self_eq_true, bne_self_eq_false, Bool.or_self, Bool.and_self, reduceCtorEq, Option.some.injEq, Bool.decide_eq_true, decide_eq_true_eq]
  refine wrong_spec hl fun b es S1 s e ee ho => ?_
  try simp only [↓W_sortSet, ↓W_slT, ↓W_var, ↓W_C, ↓W_bin, ↓W_un, ↓W_chain, ↓W_tru, ↓W_tst, ↓W_notT, ↓W_andT, ↓W_orT, ↓W_andV, ↓W_orV, ↓W_notV, ↓W_if, ↓W_nil, ↓W_cons, ↓W_tup, ↓W_lst, ↓W_call, ↓W_callK, ↓W_noPart, ↓W_part, ↓W_sl, ↓W_meth, ↓W_asg, ↓W_name, ↓W_gnil, ↓W_gcons, ↓W_gseq, ↓W_gsub, ↓W_expr, ↓W_ret, ↓W_retN, ↓W_sif, ↓W_next, ↓W_brk, ↓W_cont, ↓W_sbad, ↓W_seq, ↓W_par2, ↓W_par3, ↓W_for, ↓W_lc, ↓W_yes, ↓W_iseq, ↓W_ienum, ↓W_rng1, ↓W_rng2, ↓W_while, ↓W_fun, ↓W_subD, ↓W_addI, ↓W_addS, ↓W_addT, ↓W_mulI, ↓W_fdiv, ↓W_mod, ↓W_neg, ↓W_ord, ↓W_isi, ↓W_is, ↓W_isnt, ↓W_lenT, ↓W_lenN, ↓W_intI, ↓W_intB, ↓W_abs, ↓W_max2, ↓W_min2, ↓W_divmod, ↓W_tupleT, ↓W_tupleN, ↓W_listT, ↓W_eqI, ↓W_neI, ↓W_eqB, ↓W_neB, ↓W_ix0, ↓W_ix1, ↓W_ix2, ↓its_new, ↓its_tup, ↓lst_new, En.pick, List.filterMap_cons, List.filterMap_nil, tyN, tyM, isT, truD, En.isNon, startE, wipeE, List.map_cons, List.map_nil, List.length_cons, List.length_nil, List.cons_append, List.nil_append, List.replicate_succ, List.replicate_zero, List.getElem?_cons_succ, List.getElem?_cons_zero, List.set_cons_succ, List.set_cons_zero, Nat.reduceSub, Nat.reduceAdd, Nat.zero_add, Nat.reduceLeDiff, Nat.sub_self, Bool.not_true, Bool.not_false, Bool.true_and, Bool.and_true, Bool.false_and, Bool.and_false, Bool.or_true, Bool.true_or, Bool.false_or, Bool.or_false, Bool.false_eq_true, if_true, if_false, ite_true, ite_false, true_and, and_true, decide_true, decide_false, String.reduceBEq, beq_self_eq_true, bne_self_eq_false, Bool.or_self, Bool.and_self, reduceCtorEq, Option.some.injEq, Bool.decide_eq_true, decide_eq_true_eq]
  refine ⟨Nat.zero_le _, ?_⟩
  rw [W_emptyEq (xs := es) (Sub.app _ _ e) at_new (fun x hx => ok_mono (ho x hx) (by decide)), ee]
  exact ⟨rfl, s.new⟩
theorem W_for0 {gd : Grd} {g : MG} {a : MS} {ρ : En.Env} {S : Sto} {Q : Out → Sto → Prop} (h : grdOk gd S = true) : W (forL gd g a [] ρ S) Q = Q (.next ρ) S := by
  unfold forL; rw [if_pos h, W_ok]
theorem check_row_pu {l : List Int} (hl : l.length ≤ 1000000) (ok : rowOk l = true) : Pu m_check_row [tupI l] .non := fun S => by
  simp only [m_check_row, ↓W_sortSet, ↓W_slT, ↓W_var, ↓W_C, ↓W_bin, ↓W_un, ↓W_chain, ↓W_tru, ↓W_tst, ↓W_notT, ↓W_andT, ↓W_orT, ↓W_andV, ↓W_orV, ↓W_notV, ↓W_if, ↓W_nil, ↓W_cons, ↓W_tup, ↓W_lst, ↓W_call, ↓W_callK, ↓W_noPart, ↓W_part, ↓W_sl, ↓W_meth, ↓W_asg, ↓W_name, ↓W_gnil, ↓W_gcons, ↓W_gseq, ↓W_gsub, ↓W_expr, ↓W_ret, ↓W_retN, ↓W_sif, ↓W_next, ↓W_brk, ↓W_cont, ↓W_sbad, ↓W_seq, ↓W_par2, ↓W_par3, ↓W_for, ↓W_lc, ↓W_yes, ↓W_iseq, ↓W_ienum, ↓W_rng1, ↓W_rng2, ↓W_while, ↓W_fun, ↓W_subD, ↓W_addI, ↓W_addS, ↓W_addT, ↓W_mulI, ↓W_fdiv, ↓W_mod, ↓W_neg, ↓W_ord, ↓W_isi, ↓W_is, ↓W_isnt, ↓W_lenT, ↓W_lenN, ↓W_intI, ↓W_intB, ↓W_abs, ↓W_max2, ↓W_min2, ↓W_divmod, ↓W_tupleT, ↓W_tupleN, ↓W_listT, ↓W_eqI, ↓W_neI, ↓W_eqB, ↓W_neB, ↓W_ix0, ↓W_ix1, ↓W_ix2, ↓its_new, ↓its_tup, ↓lst_new, En.pick, List.filterMap_cons, List.filterMap_nil, tyN, tyM, isT, truD, En.isNon, startE, wipeE, List.map_cons, List.map_nil, List.length_cons, List.length_nil, List.cons_append, List.nil_append, List.replicate_succ, List.replicate_zero, List.getElem?_cons_succ, List.getElem?_cons_zero, List.set_cons_succ, List.set_cons_zero, Nat.reduceSub, Nat.reduceAdd, Nat.zero_add, Nat.reduceLeDiff, Nat.sub_self, Bool.not_true, Bool.not_false, Bool.true_and, Bool.and_true, Bool.false_and, Bool.and_false, Bool.or_true, Bool.true_or, Bool.false_or, Bool.or_false, Bool.false_eq_true, if_true, if_false, ite_true, ite_false, true_and, and_true, decide_true, decide_false, String.reduceBEq, beq_self_eq_true, bne_self_eq_false, Bool.or_self, Bool.and_self, reduceCtorEq, Option.some.injEq, Bool.decide_eq_true, decide_eq_true_eq]
  refine wrong_spec hl fun b es S1 s e ee ho => ?_
  rw [ok] at ee
  have : es = [] := by cases es with
    | nil => rfl
    | cons _ _ => cases ee
  subst this
  simp only [its_at e]
  rw [W_for0 (grd_of (its_at e))]
  exact s
end L_k07
namespace L_k07
open PySem L2 En
theorem range_cons {k n x : Nat} {r : List Nat} (h : x :: r = List.range' k n) : ∃ m, n = m + 1 ∧ x = k ∧ r = List.range' (k + 1) m := by
  cases n with
  | zero => cases h
  | succ m => rw [List.range'_succ] at h; cases h; exact ⟨m, rfl, rfl, rfl⟩
theorem range_nil {k n : Nat} (h : [] = List.range' k n) : n = 0 := by
  cases n with
  | zero => rfl
  | succ m => rw [List.range'_succ] at h; cases h
def noSum (l : List Int) (k j : Nat) : Bool := (List.range j).all fun i => (List.range (i + 1)).all fun i' => !(at' l i + at' l i' == at' l k)
theorem W_addL {i j : Nat} {xs ys : List D} {S : Sto} {Q : D → Sto → Prop} (hi : S[i]? = some (.lst xs)) (hj : S[j]? = some (.lst ys)) : W (addD (.loc i) (.loc j) S) Q = (xs.length + ys.length ≤ lim ∧ Q (.loc S.length) (S ++ [.lst (xs ++ ys)])) := by
  unfold addD; simp only [hi, hj, W_ite, W_ok, W_bad]; by_cases h : xs.length + ys.length ≤ lim <;> simp [h]
theorem isE_append {α : Type} (a b : List α) : (a ++ b).isEmpty = (a.isEmpty && b.isEmpty) := by cases a <;> simp
theorem reasons_spec {l : List Int} {k : Nat} {S : Sto} {Q : D → Sto → Prop} (hk : k < l.length) (hl : l.length ≤ 900)
    (kk : ∀ es S', Sub S S' → es.isEmpty = noSum l k k → (∀ x ∈ es, okD 2 x) → es.length ≤ 1000000 → Q (.tup es) S') : W (m__law_reasons [tupI l, .int (k : Int)] S) Q := by
  simp only [m__law_reasons, ↓W_sortSet, ↓W_slT, ↓W_var, ↓W_C, ↓W_bin, ↓W_un, ↓W_chain, ↓W_tru, ↓W_tst, ↓W_notT, ↓W_andT, ↓W_orT, ↓W_andV, ↓W_orV, ↓W_notV, ↓W_if, ↓W_nil, ↓W_cons, ↓W_tup, ↓W_lst, ↓W_call, ↓W_callK, ↓W_noPart, ↓W_part, ↓W_sl, ↓W_meth, ↓W_asg, ↓W_name, ↓W_gnil, ↓W_gcons, ↓W_gseq, ↓W_gsub, ↓W_expr, ↓W_ret, ↓W_retN, ↓W_sif, ↓W_next, ↓W_brk, ↓W_cont, ↓W_sbad, ↓W_seq, ↓W_par2, ↓W_par3, ↓W_for, ↓W_lc, ↓W_yes, ↓W_iseq, ↓W_ienum, ↓W_rng1, ↓W_rng2, ↓W_while, ↓W_fun, ↓W_subD, ↓W_addI, ↓W_addS, ↓W_addT, ↓W_mulI, ↓W_fdiv, ↓W_mod, ↓W_neg, ↓W_ord, ↓W_isi, ↓W_is, ↓W_isnt, ↓W_lenT, ↓W_lenN, ↓W_intI, ↓W_intB, ↓W_abs, ↓W_max2, ↓W_min2, ↓W_divmod, ↓W_tupleT, ↓W_tupleN, ↓W_listT, ↓W_eqI, ↓W_neI, ↓W_eqB, ↓W_neB, ↓W_ix0, ↓W_ix1, ↓W_ix2, ↓its_new, ↓its_tup, ↓lst_new, En.pick, List.filterMap_cons, List.filterMap_nil, tyN, tyM, isT, truD, En.isNon, startE, wipeE, List.map_cons, List.map_nil, List.length_cons, List.length_nil, List.cons_append, List.nil_append, List.replicate_succ, List.replicate_zero, List.getElem?_cons_succ, List.getElem?_cons_zero, List.set_cons_succ, List.set_cons_zero, Nat.reduceSub, Nat.reduceAdd, Nat.zero_add, Nat.reduceLeDiff, Nat.sub_self, Bool.not_true, Bool.not_false, Bool.true_and, Bool.and_true, Bool.false_and, Bool.and_false, Bool.or_true, Bool.true_or, Bool.false_or, Bool.or_false, Bool.false_eq_true, if_true, if_false, ite_true, ite_false, true_and, and_true, decide_true, decide_false, String.reduceBEq, beq_self_eq_true, bne_self_eq_false, Bool.or_self, Bool.and_self, reduceCtorEq, Option.some.injEq, Bool.decide_eq_true, decide_eq_true_eq]
  refine ⟨Nat.zero_le _, by omega, ?_⟩
  rw [show ((k : Int)).toNat = k from by simp, rng0]
  refine W_forI (c := fun i : Nat => D.int (i : Int)) (fun (r : List Nat) (ρ : En.Env) (S1 : Sto) => Sub S S1 ∧ ∃ (j n b : Nat) (es : List D) (x3 : Option D), r = List.range' j n ∧ j + n = k ∧ S1[b]? = some (C.lst es) ∧ es.length ≤ 1000 * j ∧ es.isEmpty = noSum l k j ∧ (∀ x ∈ es, okD 2 x) ∧ ρ = [some (tupI l), some (.int (k : Int)), some (.loc b), x3, none]) ?_ ?_ (List.range k) _ _ ⟨Sub.app, 0, k, S.length, [], _, List.range_eq_range', by omega, at_new, Nat.zero_le _, rfl, (by intro x hx; cases hx), rfl⟩
  · rintro x r ρ S1 ⟨s, j, n, b, es, x3, er, en, e, hle, he, ho, rfl⟩
    obtain ⟨m, rfl, rfl, rfl⟩ := range_cons er
    refine ⟨rfl, ?_⟩
    try simp only [↓W_sortSet, ↓W_slT, ↓W_var, ↓W_C, ↓W_bin, ↓W_un, ↓W_chain, ↓W_tru, ↓W_tst, ↓W_notT, ↓W_andT, ↓W_orT, ↓W_andV, ↓W_orV, ↓W_notV, ↓W_if, ↓W_nil, ↓W_cons, ↓W_tup, ↓W_lst, ↓W_call, ↓W_callK, ↓W_noPart, ↓W_part, ↓W_sl, ↓W_meth, ↓W_asg, ↓W_name, ↓W_gnil, ↓W_gcons, ↓W_gseq, ↓W_gsub, ↓W_expr, ↓W_ret, ↓W_retN, ↓W_sif, ↓W_next, ↓W_brk, ↓W_cont, ↓W_sbad, ↓W_seq, ↓W_par2, ↓W_par3, ↓W_for, ↓W_lc, ↓W_yes, ↓W_iseq, ↓W_ienum, ↓W_rng1, ↓W_rng2, ↓W_while, ↓W_fun, ↓W_subD, ↓W_addI, ↓W_addS, ↓W_addT, ↓W_mulI, ↓W_fdiv, ↓W_mod, ↓W_neg, ↓W_ord, ↓W_isi, ↓W_is, ↓W_isnt, ↓W_lenT, ↓W_lenN, ↓W_intI, ↓W_intB, ↓W_abs, ↓W_max2, ↓W_min2, ↓W_divmod, ↓W_tupleT, ↓W_tupleN, ↓W_listT, ↓W_eqI, ↓W_neI, ↓W_eqB, ↓W_neB, ↓W_ix0, ↓W_ix1, ↓W_ix2, ↓its_new, ↓its_tup, ↓lst_new, En.pick, List.filterMap_cons, List.filterMap_nil, tyN, tyM, isT, truD, En.isNon, startE, wipeE, List.map_cons, List.map_nil, List.length_cons, List.length_nil, List.cons_append, List.nil_append, List.replicate_succ, List.replicate_zero, List.getElem?_cons_succ, List.getElem?_cons_zero, List.set_cons_succ, List.set_cons_zero, Nat.reduceSub, Nat.reduceAdd, Nat.zero_add, Nat.reduceLeDiff, Nat.sub_self, Bool.not_true, Bool.not_false, Bool.true_and, Bool.and_true, Bool.false_and, Bool.and_false, Bool.or_true, Bool.true_or, Bool.false_or, Bool.or_false, Bool.false_eq_true, if_true, if_false, ite_true, ite_false, true_and, and_true, decide_true, decide_false, String.reduceBEq, beq_self_eq_true, bne_self_eq_false, Bool.or_self, Bool.and_self, reduceCtorEq, Option.some.injEq, Bool.decide_eq_true, decide_eq_true_eq]
    refine ⟨by omega, ?_⟩
    rw [show ((x : Int) + 1).toNat = x + 1 from by omega, rng0]
    refine W_lcP (c := fun i : Nat => D.int (i : Int)) (p := fun i' => at' l x + at' l i' == at' l k) (v := fun i' => .tup [.int (x : Int), .int (i' : Int)]) rfl (fun i' hi S2 s2 => ?_) fun S2 s2 => ?_
    · have hi := List.mem_range.mp hi
      simp only [tupI, ↓W_sortSet, ↓W_slT, ↓W_var, ↓W_C, ↓W_bin, ↓W_un, ↓W_chain, ↓W_tru, ↓W_tst, ↓W_notT, ↓W_andT, ↓W_orT, ↓W_andV, ↓W_orV, ↓W_notV, ↓W_if, ↓W_nil, ↓W_cons, ↓W_tup, ↓W_lst, ↓W_call, ↓W_callK, ↓W_noPart, ↓W_part, ↓W_sl, ↓W_meth, ↓W_asg, ↓W_name, ↓W_gnil, ↓W_gcons, ↓W_gseq, ↓W_gsub, ↓W_expr, ↓W_ret, ↓W_retN, ↓W_sif, ↓W_next, ↓W_brk, ↓W_cont, ↓W_sbad, ↓W_seq, ↓W_par2, ↓W_par3, ↓W_for, ↓W_lc, ↓W_yes, ↓W_iseq, ↓W_ienum, ↓W_rng1, ↓W_rng2, ↓W_while, ↓W_fun, ↓W_subD, ↓W_addI, ↓W_addS, ↓W_addT, ↓W_mulI, ↓W_fdiv, ↓W_mod, ↓W_neg, ↓W_ord, ↓W_isi, ↓W_is, ↓W_isnt, ↓W_lenT, ↓W_lenN, ↓W_intI, ↓W_intB, ↓W_abs, ↓W_max2, ↓W_min2, ↓W_divmod, ↓W_tupleT, ↓W_tupleN, ↓W_listT, ↓W_eqI, ↓W_neI, ↓W_eqB, ↓W_neB, ↓W_ix0, ↓W_ix1, ↓W_ix2, ↓its_new, ↓its_tup, ↓lst_new, En.pick, List.filterMap_cons, List.filterMap_nil, tyN, tyM, isT, truD, En.isNon, startE, wipeE, List.map_cons, List.map_nil, List.length_cons, List.length_nil, List.cons_append, List.nil_append, List.replicate_succ, List.replicate_zero, List.getElem?_cons_succ, List.getElem?_cons_zero, List.set_cons_succ, List.set_cons_zero, Nat.reduceSub, Nat.reduceAdd, Nat.zero_add, Nat.reduceLeDiff, Nat.sub_self, Bool.not_true, Bool.not_false, Bool.true_and, Bool.and_true, Bool.false_and, Bool.and_false, Bool.or_true, Bool.true_or, Bool.false_or, Bool.or_false, Bool.false_eq_true, if_true, if_false, ite_true, ite_false, true_and, and_true, decide_true, decide_false, String.reduceBEq, beq_self_eq_true, bne_self_eq_false, Bool.or_self, Bool.and_self, reduceCtorEq, Option.some.injEq, Bool.decide_eq_true, decide_eq_true_eq]
      rw [W_ixN its_tup (int_at (i := x) (by omega))]
      try simp only [↓W_sortSet, ↓W_slT, ↓W_var, ↓W_C, ↓W_bin, ↓W_un, ↓W_chain, ↓W_tru, ↓W_tst, ↓W_notT, ↓W_andT, ↓W_orT, ↓W_andV, ↓W_orV, ↓W_notV, ↓W_if, ↓W_nil, ↓W_cons, ↓W_tup, ↓W_lst, ↓W_call, ↓W_callK, ↓W_noPart, ↓W_part, ↓W_sl, ↓W_meth, ↓W_asg, ↓W_name, ↓W_gnil, ↓W_gcons, ↓W_gseq, ↓W_gsub, ↓W_expr, ↓W_ret, ↓W_retN, ↓W_sif, ↓W_next, ↓W_brk, ↓W_cont, ↓W_sbad, ↓W_seq, ↓W_par2, ↓W_par3, ↓W_for, ↓W_lc, ↓W_yes, ↓W_iseq, ↓W_ienum, ↓W_rng1, ↓W_rng2, ↓W_while, ↓W_fun, ↓W_subD, ↓W_addI, ↓W_addS, ↓W_addT, ↓W_mulI, ↓W_fdiv, ↓W_mod, ↓W_neg, ↓W_ord, ↓W_isi, ↓W_is, ↓W_isnt, ↓W_lenT, ↓W_lenN, ↓W_intI, ↓W_intB, ↓W_abs, ↓W_max2, ↓W_min2, ↓W_divmod, ↓W_tupleT, ↓W_tupleN, ↓W_listT, ↓W_eqI, ↓W_neI, ↓W_eqB, ↓W_neB, ↓W_ix0, ↓W_ix1, ↓W_ix2, ↓its_new, ↓its_tup, ↓lst_new, En.pick, List.filterMap_cons, List.filterMap_nil, tyN, tyM, isT, truD, En.isNon, startE, wipeE, List.map_cons, List.map_nil, List.length_cons, List.length_nil, List.cons_append, List.nil_append, List.replicate_succ, List.replicate_zero, List.getElem?_cons_succ, List.getElem?_cons_zero, List.set_cons_succ, List.set_cons_zero, Nat.reduceSub, Nat.reduceAdd, Nat.zero_add, Nat.reduceLeDiff, Nat.sub_self, Bool.not_true, Bool.not_false, Bool.true_and, Bool.and_true, Bool.false_and, Bool.and_false, Bool.or_true, Bool.true_or, Bool.false_or, Bool.or_false, Bool.false_eq_true, if_true, if_false, ite_true, ite_false, true_and, and_true, decide_true, decide_false, String.reduceBEq, beq_self_eq_true, bne_self_eq_false, Bool.or_self, Bool.and_self, reduceCtorEq, Option.some.injEq, Bool.decide_eq_true, decide_eq_true_eq]
      rw [W_ixN its_tup (int_at (i := i') (by omega))]
      try simp only [↓W_sortSet, ↓W_slT, ↓W_var, ↓W_C, ↓W_bin, ↓W_un, ↓W_chain, ↓W_tru, ↓W_tst, ↓W_notT, ↓W_andT, ↓W_orT, ↓W_andV, ↓W_orV, ↓W_notV, ↓W_if, ↓W_nil, ↓W_cons, ↓W_tup, ↓W_lst, ↓W_call, ↓W_callK, ↓W_noPart, ↓W_part, ↓W_sl, ↓W_meth, ↓W_asg, ↓W_name, ↓W_gnil, ↓W_gcons, ↓W_gseq, ↓W_gsub, ↓W_expr, ↓W_ret, ↓W_retN, ↓W_sif, ↓W_next, ↓W_brk, ↓W_cont, ↓W_sbad, ↓W_seq, ↓W_par2, ↓W_par3, ↓W_for, ↓W_lc, ↓W_yes, ↓W_iseq, ↓W_ienum, ↓W_rng1, ↓W_rng2, ↓W_while, ↓W_fun, ↓W_subD, ↓W_addI, ↓W_addS, ↓W_addT, ↓W_mulI, ↓W_fdiv, ↓W_mod, ↓W_neg, ↓W_ord, ↓W_isi, ↓W_is, ↓W_isnt, ↓W_lenT, ↓W_lenN, ↓W_intI, ↓W_intB, ↓W_abs, ↓W_max2, ↓W_min2, ↓W_divmod, ↓W_tupleT, ↓W_tupleN, ↓W_listT, ↓W_eqI, ↓W_neI, ↓W_eqB, ↓W_neB, ↓W_ix0, ↓W_ix1, ↓W_ix2, ↓its_new, ↓its_tup, ↓lst_new, En.pick, List.filterMap_cons, List.filterMap_nil, tyN, tyM, isT, truD, En.isNon, startE, wipeE, List.map_cons, List.map_nil, List.length_cons, List.length_nil, List.cons_append, List.nil_append, List.replicate_succ, List.replicate_zero, List.getElem?_cons_succ, List.getElem?_cons_zero, List.set_cons_succ, List.set_cons_zero, Nat.reduceSub, Nat.reduceAdd, Nat.zero_add, Nat.reduceLeDiff, Nat.sub_self, Bool.not_true, Bool.not_false, Bool.true_and, Bool.and_true, Bool.false_and, Bool.and_false, Bool.or_true, Bool.true_or, Bool.false_or, Bool.or_false, Bool.false_eq_true, if_true, if_false, ite_true, ite_false, true_and, and_true, decide_true, decide_false, String.reduceBEq, beq_self_eq_true, bne_self_eq_false, Bool.or_self, Bool.and_self, reduceCtorEq, Option.some.injEq, Bool.decide_eq_true, decide_eq_true_eq]
      rw [W_ixN its_tup (int_at (i := k) hk)]
      try simp only [↓W_sortSet, ↓W_slT, ↓W_var, ↓W_C, ↓W_bin, ↓W_un, ↓W_chain, ↓W_tru, ↓W_tst, ↓W_notT, ↓W_andT, ↓W_orT, ↓W_andV, ↓W_orV, ↓W_notV, ↓W_if, ↓W_nil, ↓W_cons, ↓W_tup, ↓W_lst, ↓W_call, ↓W_callK, ↓W_noPart, ↓W_part, ↓W_sl, ↓W_meth, ↓W_asg, ↓W_name, ↓W_gnil, ↓W_gcons, ↓W_gseq, ↓W_gsub, ↓W_expr, ↓W_ret, ↓W_retN, ↓W_sif, ↓W_next, ↓W_brk, ↓W_cont, ↓W_sbad, ↓W_seq, ↓W_par2, ↓W_par3, ↓W_for, ↓W_lc, ↓W_yes, ↓W_iseq, ↓W_ienum, ↓W_rng1, ↓W_rng2, ↓W_while, ↓W_fun, ↓W_subD, ↓W_addI, ↓W_addS, ↓W_addT, ↓W_mulI, ↓W_fdiv, ↓W_mod, ↓W_neg, ↓W_ord, ↓W_isi, ↓W_is, ↓W_isnt, ↓W_lenT, ↓W_lenN, ↓W_intI, ↓W_intB, ↓W_abs, ↓W_max2, ↓W_min2, ↓W_divmod, ↓W_tupleT, ↓W_tupleN, ↓W_listT, ↓W_eqI, ↓W_neI, ↓W_eqB, ↓W_neB, ↓W_ix0, ↓W_ix1, ↓W_ix2, ↓its_new, ↓its_tup, ↓lst_new, En.pick, List.filterMap_cons, List.filterMap_nil, tyN, tyM, isT, truD, En.isNon, startE, wipeE, List.map_cons, List.map_nil, List.length_cons, List.length_nil, List.cons_append, List.nil_append, List.replicate_succ, List.replicate_zero, List.getElem?_cons_succ, List.getElem?_cons_zero, List.set_cons_succ, List.set_cons_zero, Nat.reduceSub, Nat.reduceAdd, Nat.zero_add, Nat.reduceLeDiff, Nat.sub_self, Bool.not_true, Bool.not_false, Bool.true_and, Bool.and_true, Bool.false_and, Bool.and_false, Bool.or_true, Bool.true_or, Bool.false_or, Bool.or_false, Bool.false_eq_true, if_true, if_false, ite_true, ite_false, true_and, and_true, decide_true, decide_false, String.reduceBEq, beq_self_eq_true, bne_self_eq_false, Bool.or_self, Bool.and_self, reduceCtorEq, Option.some.injEq, Bool.decide_eq_true, decide_eq_true_eq]
      cases at' l x + at' l i' == at' l k with
      | false => simp only [↓W_sortSet, ↓W_slT, ↓W_var, ↓W_C, ↓W_bin, ↓W_un, ↓W_chain, ↓W_tru, ↓W_tst, ↓W_notT, ↓W_andT, ↓W_orT, ↓W_andV, ↓W_orV, ↓W_notV, ↓W_if, ↓W_nil, ↓W_cons, ↓W_tup, ↓W_lst, ↓W_call, ↓W_callK, ↓W_noPart, ↓W_part, ↓W_sl, ↓W_meth, ↓W_asg, ↓W_name, ↓W_gnil, ↓W_gcons, ↓W_gseq, ↓W_gsub, ↓W_expr, ↓W_ret, ↓W_retN, ↓W_sif, ↓W_next, ↓W_brk, ↓W_cont, ↓W_sbad, ↓W_seq, ↓W_par2, ↓W_par3, ↓W_for, ↓W_lc, ↓W_yes, ↓W_iseq, ↓W_ienum, ↓W_rng1, ↓W_rng2, ↓W_while, ↓W_fun, ↓W_subD, ↓W_addI, ↓W_addS, ↓W_addT, ↓W_mulI, ↓W_fdiv, ↓W_mod, ↓W_neg, ↓W_ord, ↓W_isi, ↓W_is, ↓W_isnt, ↓W_lenT, ↓W_lenN, ↓W_intI, ↓W_intB, ↓W_abs, ↓W_max2, ↓W_min2, ↓W_divmod, ↓W_tupleT, ↓W_tupleN, ↓W_listT, ↓W_eqI, ↓W_neI, ↓W_eqB, ↓W_neB, ↓W_ix0, ↓W_ix1, ↓W_ix2, ↓its_new, ↓its_tup, ↓lst_new, En.pick, List.filterMap_cons, List.filterMap_nil, tyN, tyM, isT, truD, En.isNon, startE, wipeE, List.map_cons, List.map_nil, List.length_cons, List.length_nil, List.cons_append, List.nil_append, List.replicate_succ, List.replicate_zero, List.getElem?_cons_succ, List.getElem?_cons_zero, List.set_cons_succ, List.set_cons_zero, Nat.reduceSub, Nat.reduceAdd, Nat.zero_add, Nat.reduceLeDiff, Nat.sub_self, Bool.not_true, Bool.not_false, Bool.true_and, Bool.and_true, Bool.false_and, Bool.and_false, Bool.or_true, Bool.true_or, Bool.false_or, Bool.or_false, Bool.false_eq_true, if_true, if_false, ite_true, ite_false, true_and, and_true, decide_true, decide_false, String.reduceBEq, beq_self_eq_true, bne_self_eq_false, Bool.or_self, Bool.and_self, reduceCtorEq, Option.some.injEq, Bool.decide_eq_true, decide_eq_true_eq]; exact Sub.refl
      | true => simp only [↓W_sortSet, ↓W_slT, ↓W_var, ↓W_C, ↓W_bin, ↓W_un, ↓W_chain, ↓W_tru, ↓W_tst, ↓W_notT, ↓W_andT, ↓W_orT, ↓W_andV, ↓W_orV, ↓W_notV, ↓W_if, ↓W_nil, ↓W_cons, ↓W_tup, ↓W_lst, ↓W_call, ↓W_callK, ↓W_noPart, ↓W_part, ↓W_sl, ↓W_meth, ↓W_asg, ↓W_name, ↓W_gnil, ↓W_gcons, ↓W_gseq, ↓W_gsub, ↓W_expr, ↓W_ret, ↓W_retN, ↓W_sif, ↓W_next, ↓W_brk, ↓W_cont, ↓W_sbad, ↓W_seq, ↓W_par2, ↓W_par3, ↓W_for, ↓W_lc, ↓W_yes, ↓W_iseq, ↓W_ienum, ↓W_rng1, ↓W_rng2, ↓W_while, ↓W_fun, ↓W_subD, ↓W_addI, ↓W_addS, ↓W_addT, ↓W_mulI, ↓W_fdiv, ↓W_mod, ↓W_neg, ↓W_ord, ↓W_isi, ↓W_is, ↓W_isnt, ↓W_lenT, ↓W_lenN, ↓W_intI, ↓W_intB, ↓W_abs, ↓W_max2, ↓W_min2, ↓W_divmod, ↓W_tupleT, ↓W_tupleN, ↓W_listT, ↓W_eqI, ↓W_neI, ↓W_eqB, ↓W_neB, ↓W_ix0, ↓W_ix1, ↓W_ix2, ↓its_new, ↓its_tup, ↓lst_new, En.pick, List.filterMap_cons, List.filterMap_nil, tyN, tyM, isT, truD, En.isNon, startE, wipeE, List.map_cons, List.map_nil, List.length_cons, List.length_nil, List.cons_append, List.nil_append, List.replicate_succ, List.replicate_zero, List.getElem?_cons_succ, List.getElem?_cons_zero, List.set_cons_succ, List.set_cons_zero, Nat.reduceSub, Nat.reduceAdd, Nat.zero_add, Nat.reduceLeDiff, Nat.sub_self, Bool.not_true, Bool.not_false, Bool.true_and, Bool.and_true, Bool.false_and, Bool.and_false, Bool.or_true, Bool.true_or, Bool.false_or, Bool.or_false, Bool.false_eq_true, if_true, if_false, ite_true, ite_false, true_and, and_true, decide_true, decide_false, String.reduceBEq, beq_self_eq_true, bne_self_eq_false, Bool.or_self, Bool.and_self, reduceCtorEq, Option.some.injEq, Bool.decide_eq_true, decide_eq_true_eq]; exact ⟨by decide, Sub.refl⟩
    · have lf : (((List.range (x + 1)).filter fun i' => at' l x + at' l i' == at' l k).map fun (i' : Nat) => D.tup [.int (x : Int), .int (i' : Int)]).length ≤ 1000 := by
        rw [List.length_map]
        exact Nat.le_trans (List.length_filter_le _ _) (by rw [List.length_range]; omega)
      refine ⟨le_lim (by omega), ?_⟩
      rw [W_addL (Sub.app _ _ (s2 _ _ e)) at_new]
      refine ⟨le_lim (by omega), ?_⟩
      try simp only [↓W_sortSet, ↓W_slT, ↓W_var, ↓W_C, ↓W_bin, ↓W_un, ↓W_chain, ↓W_tru, ↓W_tst, ↓W_notT, ↓W_andT, ↓W_orT, ↓W_andV, ↓W_orV, ↓W_notV, ↓W_if, ↓W_nil, ↓W_cons, ↓W_tup, ↓W_lst, ↓W_call, ↓W_callK, ↓W_noPart, ↓W_part, ↓W_sl, ↓W_meth, ↓W_asg, ↓W_name, ↓W_gnil, ↓W_gcons, ↓W_gseq, ↓W_gsub, ↓W_expr, ↓W_ret, ↓W_retN, ↓W_sif, ↓W_next, ↓W_brk, ↓W_cont, ↓W_sbad, ↓W_seq, ↓W_par2, ↓W_par3, ↓W_for, ↓W_lc, ↓W_yes, ↓W_iseq, ↓W_ienum, ↓W_rng1, ↓W_rng2, ↓W_while, ↓W_fun, ↓W_subD, ↓W_addI, ↓W_addS, ↓W_addT, ↓W_mulI, ↓W_fdiv, ↓W_mod, ↓W_neg, ↓W_ord, ↓W_isi, ↓W_is, ↓W_isnt, ↓W_lenT, ↓W_lenN, ↓W_intI, ↓W_intB, ↓W_abs, ↓W_max2, ↓W_min2, ↓W_divmod, ↓W_tupleT, ↓W_tupleN, ↓W_listT, ↓W_eqI, ↓W_neI, ↓W_eqB, ↓W_neB, ↓W_ix0, ↓W_ix1, ↓W_ix2, ↓its_new, ↓its_tup, ↓lst_new, En.pick, List.filterMap_cons, List.filterMap_nil, tyN, tyM, isT, truD, En.isNon, startE, wipeE, List.map_cons, List.map_nil, List.length_cons, List.length_nil, List.cons_append, List.nil_append, List.replicate_succ, List.replicate_zero, List.getElem?_cons_succ, List.getElem?_cons_zero, List.set_cons_succ, List.set_cons_zero, Nat.reduceSub, Nat.reduceAdd, Nat.zero_add, Nat.reduceLeDiff, Nat.sub_self, Bool.not_true, Bool.not_false, Bool.true_and, Bool.and_true, Bool.false_and, Bool.and_false, Bool.or_true, Bool.true_or, Bool.false_or, Bool.or_false, Bool.false_eq_true, if_true, if_false, ite_true, ite_false, true_and, and_true, decide_true, decide_false, String.reduceBEq, beq_self_eq_true, bne_self_eq_false, Bool.or_self, Bool.and_self, reduceCtorEq, Option.some.injEq, Bool.decide_eq_true, decide_eq_true_eq]
      refine ⟨(s.trans s2).new.new, x + 1, m, _, _, _, rfl, by omega, at_new, by rw [List.length_append]; omega, ?_, ?_, rfl⟩
      · unfold noSum
        rw [List.range_succ, List.all_append, isE_append, he]
        congr 1
        rw [List.isEmpty_map]
        simp only [List.all_cons, List.all_nil, Bool.and_true]
        rw [Bool.eq_iff_iff, List.isEmpty_iff, List.filter_eq_nil_iff, List.all_eq_true]
        simp
        exact ⟨fun h a ha => h a (by omega), fun h a ha => h a (by omega)⟩
      · intro y hy
        rcases List.mem_append.mp hy with h | h
        · exact ho y h
        · obtain ⟨i', _, rfl⟩ := List.mem_map.mp h
          exact ⟨by simp, by intro z hz; simp at hz; rcases hz with rfl | rfl <;> trivial⟩
  · rintro ρ S1 ⟨s, j, n, b, es, x3, er, en, e, hle, he, ho, rfl⟩
    have := range_nil er
    subst this
    refine ⟨rfl, ?_⟩
    try simp only [↓W_sortSet, ↓W_slT, ↓W_var, ↓W_C, ↓W_bin, ↓W_un, ↓W_chain, ↓W_tru, ↓W_tst, ↓W_notT, ↓W_andT, ↓W_orT, ↓W_andV, ↓W_orV, ↓W_notV, ↓W_if, ↓W_nil, ↓W_cons, ↓W_tup, ↓W_lst, ↓W_call, ↓W_callK, ↓W_noPart, ↓W_part, ↓W_sl, ↓W_meth, ↓W_asg, ↓W_name, ↓W_gnil, ↓W_gcons, ↓W_gseq, ↓W_gsub, ↓W_expr, ↓W_ret, ↓W_retN, ↓W_sif, ↓W_next, ↓W_brk, ↓W_cont, ↓W_sbad, ↓W_seq, ↓W_par2, ↓W_par3, ↓W_for, ↓W_lc, ↓W_yes, ↓W_iseq, ↓W_ienum, ↓W_rng1, ↓W_rng2, ↓W_while, ↓W_fun, ↓W_subD, ↓W_addI, ↓W_addS, ↓W_addT, ↓W_mulI, ↓W_fdiv, ↓W_mod, ↓W_neg, ↓W_ord, ↓W_isi, ↓W_is, ↓W_isnt, ↓W_lenT, ↓W_lenN, ↓W_intI, ↓W_intB, ↓W_abs, ↓W_max2, ↓W_min2, ↓W_divmod, ↓W_tupleT, ↓W_tupleN, ↓W_listT, ↓W_eqI, ↓W_neI, ↓W_eqB, ↓W_neB, ↓W_ix0, ↓W_ix1, ↓W_ix2, ↓its_new, ↓its_tup, ↓lst_new, En.pick, List.filterMap_cons, List.filterMap_nil, tyN, tyM, isT, truD, En.isNon, startE, wipeE, List.map_cons, List.map_nil, List.length_cons, List.length_nil, List.cons_append, List.nil_append, List.replicate_succ, List.replicate_zero, List.getElem?_cons_succ, List.getElem?_cons_zero, List.set_cons_succ, List.set_cons_zero, Nat.reduceSub, Nat.reduceAdd, Nat.zero_add, Nat.reduceLeDiff, Nat.sub_self, Bool.not_true, Bool.not_false, Bool.true_and, Bool.and_true, Bool.false_and, Bool.and_false, Bool.or_true, Bool.true_or, Bool.false_or, Bool.or_false, Bool.false_eq_true, if_true, if_false, ite_true, ite_false, true_and, and_true, decide_true, decide_false, String.reduceBEq, beq_self_eq_true, bne_self_eq_false, Bool.or_self, Bool.and_self, reduceCtorEq, Option.some.injEq, Bool.decide_eq_true, decide_eq_true_eq]
    rw [W_tuple (its_at e)]
    have hj : j = k := by omega
    subst hj
    exact kk es _ s he ho (by omega)
theorem mem_take_at {l : List Int} {k : Nat} {x : Int} : x ∈ l.take k ↔ ∃ i, i < k ∧ i < l.length ∧ at' l i = x := by
  rw [List.mem_take_iff_getElem]
  constructor
  · rintro ⟨i, h, rfl⟩
    exact ⟨i, by omega, by omega, at_eq (by omega)⟩
  · rintro ⟨i, h1, h2, rfl⟩
    exact ⟨i, by omega, (at_eq h2).symm⟩
theorem noSum_eq {l : List Int} {k : Nat} (hk : k < l.length) : noSum l k k = !sumIn (l.take k) (at' l k) := by
  rw [Bool.eq_iff_iff]
  unfold noSum sumIn
  simp only [List.all_eq_true, List.mem_range, Bool.not_eq_true', beq_eq_false_iff_ne, List.any_eq_false, List.contains_iff_mem, Bool.not_eq_true]
  constructor
  · intro h e he hc
    obtain ⟨i, hi, hil, rfl⟩ := mem_take_at.mp he
    obtain ⟨j, hj, hjl, e2⟩ := mem_take_at.mp hc
    by_cases hij : j ≤ i
    · exact h i hi j (by omega) (by omega)
    · exact h j hj i (by omega) (by omega)
  · intro h i hi j hj e
    exact h (at' l i) (mem_take_at.mpr ⟨i, hi, by omega, rfl⟩) (mem_take_at.mpr ⟨j, by omega, by omega, by omega⟩)
abbrev rt : D := .str (Str.ofString "right")
theorem rt_ok : okD 1 rt := by show PyData.strOk _ = true; decide +kernel
end L_k07
namespace L_k07
open PySem L2 En
theorem rt_self {S : Sto} {Q : D → Sto → Prop} : W (eqD rt rt S) Q = Q (.bl true) S := W_eqSame (by decide) rt_ok
theorem rt_sh : SeqAt.shaped (.str (Str.ofString "right")) = true := by decide +kernel
theorem rt_int {S : Sto} {Q : D → Sto → Prop} {i : Int} : W (eqD (.int i) rt S) Q = Q (.bl false) S := by
  rw [W_eqP (p := .int i) (q := .str (Str.ofString "right")) (by simp only [pyS, pyD]) (by simp only [pyS, pyD]) rfl rt_sh]; simp only [PyData.eqv]
theorem rt_non {S : Sto} {Q : D → Sto → Prop} : W (eqD .non rt S) Q = Q (.bl false) S := by
  rw [W_eqP (p := .none) (q := .str (Str.ofString "right")) (by simp only [pyS, pyD]) (by simp only [pyS, pyD]) rfl rt_sh]; simp only [PyData.eqv]
/-- the law's own word: right exactly if so -/
def Says (d : D) (b : Bool) : Prop := ∀ (S : Sto) (Q : D → Sto → Prop), W (eqD d rt S) Q = Q (.bl b) S
theorem law_wrong_spec {l : List Int} {S : Sto} {Q : D → Sto → Prop} (hl : l.length ≤ 900) (k : ∀ d S', Sub S S' → Says d (rowOk l) → Q d S') : W (m__law_row_wrong [tupI l] S) Q := by
  simp only [m__law_row_wrong, tupI, ↓W_sortSet, ↓W_slT, ↓W_var, ↓W_C, ↓W_bin, ↓W_un, ↓W_chain, ↓W_tru, ↓W_tst, ↓W_notT, ↓W_andT, ↓W_orT, ↓W_andV, ↓W_orV, ↓W_notV, ↓W_if, ↓W_nil, ↓W_cons, ↓W_tup, ↓W_lst, ↓W_call, ↓W_callK, ↓W_noPart, ↓W_part, ↓W_sl, ↓W_meth, ↓W_asg, ↓W_name, ↓W_gnil, ↓W_gcons, ↓W_gseq, ↓W_gsub, ↓W_expr, ↓W_ret, ↓W_retN, ↓W_sif, ↓W_next, ↓W_brk, ↓W_cont, ↓W_sbad, ↓W_seq, ↓W_par2, ↓W_par3, ↓W_for, ↓W_lc, ↓W_yes, ↓W_iseq, ↓W_ienum, ↓W_rng1, ↓W_rng2, ↓W_while, ↓W_fun, ↓W_subD, ↓W_addI, ↓W_addS, ↓W_addT, ↓W_mulI, ↓W_fdiv, ↓W_mod, ↓W_neg, ↓W_ord, ↓W_isi, ↓W_is, ↓W_isnt, ↓W_lenT, ↓W_lenN, ↓W_intI, ↓W_intB, ↓W_abs, ↓W_max2, ↓W_min2, ↓W_divmod, ↓W_tupleT, ↓W_tupleN, ↓W_listT, ↓W_eqI, ↓W_neI, ↓W_eqB, ↓W_neB, ↓W_ix0, ↓W_ix1, ↓W_ix2, ↓its_new, ↓its_tup, ↓lst_new, En.pick, List.filterMap_cons, List.filterMap_nil, tyN, tyM, isT, truD, En.isNon, startE, wipeE, List.map_cons, List.map_nil, List.length_cons, List.length_nil, List.cons_append, List.nil_append, List.replicate_succ, List.replicate_zero, List.getElem?_cons_succ, List.getElem?_cons_zero, List.set_cons_succ, List.set_cons_zero, Nat.reduceSub, Nat.reduceAdd, Nat.zero_add, Nat.reduceLeDiff, Nat.sub_self, Bool.not_true, Bool.not_false, Bool.true_and, Bool.and_true, Bool.false_and, Bool.and_false, Bool.or_true, Bool.true_or, Bool.false_or, Bool.or_false, Bool.false_eq_true, if_true, if_false, ite_true, ite_false, true_and, and_true, decide_true, decide_false, String.reduceBEq, beq_self_eq_true, bne_self_eq_false, Bool.or_self, Bool.and_self, reduceCtorEq, Option.some.injEq, Bool.decide_eq_true, decide_eq_true_eq]
  rw [W_eqNil (ok_tupI (n := 5) (by omega) (by decide))]
  refine ⟨Nat.zero_le _, ?_⟩
  cases hl0 : l with
  | nil =>
    simp only [List.map_nil, List.isEmpty_nil, ↓W_sortSet, ↓W_slT, ↓W_var, ↓W_C, ↓W_bin, ↓W_un, ↓W_chain, ↓W_tru, ↓W_tst, ↓W_notT, ↓W_andT, ↓W_orT, ↓W_andV, ↓W_orV, ↓W_notV, ↓W_if, ↓W_nil, ↓W_cons, ↓W_tup, ↓W_lst, ↓W_call, ↓W_callK, ↓W_noPart, ↓W_part, ↓W_sl, ↓W_meth, ↓W_asg, ↓W_name, ↓W_gnil, ↓W_gcons, ↓W_gseq, ↓W_gsub, ↓W_expr, ↓W_ret, ↓W_retN, ↓W_sif, ↓W_next, ↓W_brk, ↓W_cont, ↓W_sbad, ↓W_seq, ↓W_par2, ↓W_par3, ↓W_for, ↓W_lc, ↓W_yes, ↓W_iseq, ↓W_ienum, ↓W_rng1, ↓W_rng2, ↓W_while, ↓W_fun, ↓W_subD, ↓W_addI, ↓W_addS, ↓W_addT, ↓W_mulI, ↓W_fdiv, ↓W_mod, ↓W_neg, ↓W_ord, ↓W_isi, ↓W_is, ↓W_isnt, ↓W_lenT, ↓W_lenN, ↓W_intI, ↓W_intB, ↓W_abs, ↓W_max2, ↓W_min2, ↓W_divmod, ↓W_tupleT, ↓W_tupleN, ↓W_listT, ↓W_eqI, ↓W_neI, ↓W_eqB, ↓W_neB, ↓W_ix0, ↓W_ix1, ↓W_ix2, ↓its_new, ↓its_tup, ↓lst_new, En.pick, List.filterMap_cons, List.filterMap_nil, tyN, tyM, isT, truD, En.isNon, startE, wipeE, List.map_cons, List.map_nil, List.length_cons, List.length_nil, List.cons_append, List.nil_append, List.replicate_succ, List.replicate_zero, List.getElem?_cons_succ, List.getElem?_cons_zero, List.set_cons_succ, List.set_cons_zero, Nat.reduceSub, Nat.reduceAdd, Nat.zero_add, Nat.reduceLeDiff, Nat.sub_self, Bool.not_true, Bool.not_false, Bool.true_and, Bool.and_true, Bool.false_and, Bool.and_false, Bool.or_true, Bool.true_or, Bool.false_or, Bool.or_false, Bool.false_eq_true, if_true, if_false, ite_true, ite_false, true_and, and_true, decide_true, decide_false, String.reduceBEq, beq_self_eq_true, bne_self_eq_false, Bool.or_self, Bool.and_self, reduceCtorEq, Option.some.injEq, Bool.decide_eq_true, decide_eq_true_eq]
    subst hl0
    exact k _ _ Sub.refl fun S Q => rt_non
  | cons x0 r0 =>
    rw [← hl0]
    have hne : (l.map D.int).isEmpty = false := by rw [hl0]; rfl
    have hne' : l.isEmpty = false := by rw [hl0]; rfl
    simp only [hne, ↓W_sortSet, ↓W_slT, ↓W_var, ↓W_C, ↓W_bin, ↓W_un, ↓W_chain, ↓W_tru, ↓W_tst, ↓W_notT, ↓W_andT, ↓W_orT, ↓W_andV, ↓W_orV, ↓W_notV, ↓W_if, ↓W_nil, ↓W_cons, ↓W_tup, ↓W_lst, ↓W_call, ↓W_callK, ↓W_noPart, ↓W_part, ↓W_sl, ↓W_meth, ↓W_asg, ↓W_name, ↓W_gnil, ↓W_gcons, ↓W_gseq, ↓W_gsub, ↓W_expr, ↓W_ret, ↓W_retN, ↓W_sif, ↓W_next, ↓W_brk, ↓W_cont, ↓W_sbad, ↓W_seq, ↓W_par2, ↓W_par3, ↓W_for, ↓W_lc, ↓W_yes, ↓W_iseq, ↓W_ienum, ↓W_rng1, ↓W_rng2, ↓W_while, ↓W_fun, ↓W_subD, ↓W_addI, ↓W_addS, ↓W_addT, ↓W_mulI, ↓W_fdiv, ↓W_mod, ↓W_neg, ↓W_ord, ↓W_isi, ↓W_is, ↓W_isnt, ↓W_lenT, ↓W_lenN, ↓W_intI, ↓W_intB, ↓W_abs, ↓W_max2, ↓W_min2, ↓W_divmod, ↓W_tupleT, ↓W_tupleN, ↓W_listT, ↓W_eqI, ↓W_neI, ↓W_eqB, ↓W_neB, ↓W_ix0, ↓W_ix1, ↓W_ix2, ↓its_new, ↓its_tup, ↓lst_new, En.pick, List.filterMap_cons, List.filterMap_nil, tyN, tyM, isT, truD, En.isNon, startE, wipeE, List.map_cons, List.map_nil, List.length_cons, List.length_nil, List.cons_append, List.nil_append, List.replicate_succ, List.replicate_zero, List.getElem?_cons_succ, List.getElem?_cons_zero, List.set_cons_succ, List.set_cons_zero, Nat.reduceSub, Nat.reduceAdd, Nat.zero_add, Nat.reduceLeDiff, Nat.sub_self, Bool.not_true, Bool.not_false, Bool.true_and, Bool.and_true, Bool.false_and, Bool.and_false, Bool.or_true, Bool.true_or, Bool.false_or, Bool.or_false, Bool.false_eq_true, if_true, if_false, ite_true, ite_false, true_and, and_true, decide_true, decide_false, String.reduceBEq, beq_self_eq_true, bne_self_eq_false, Bool.or_self, Bool.and_self, reduceCtorEq, Option.some.injEq, Bool.decide_eq_true, decide_eq_true_eq, List.length_map]
    refine ⟨by omega, ?_⟩
    rw [show ((l.length : Int)).toNat = l.length from by simp, rng0]
    have bad : ∀ (j : Nat) S', okFrom l 0 l.length = false → Sub S S' → Q (.int (j : Int)) S' := fun j S' e s =>
      k _ _ s fun S Q => by rw [rt_int, rowOk, e, Bool.and_false]
    refine W_forI (c := fun i : Nat => D.int (i : Int)) (fun (r : List Nat) (ρ : En.Env) (S1 : Sto) => Sub S S1 ∧ ∃ (j n : Nat) (x1 : Option D), r = List.range' j n ∧ j + n = l.length ∧ okFrom l 0 l.length = okFrom l j n ∧ ρ = [some (.tup (l.map D.int)), x1]) ?_ ?_ (List.range l.length) _ S ⟨Sub.refl, 0, l.length, _, List.range_eq_range', by omega, rfl, rfl⟩
    · rintro i r ρ S1 ⟨s, j, n, x1, er, en, eo, rfl⟩
      obtain ⟨m, rfl, rfl, rfl⟩ := range_cons er
      have hj : i < l.length := by omega
      refine ⟨rfl, ?_⟩
      simp only [okFrom] at eo
      try simp only [↓W_sortSet, ↓W_slT, ↓W_var, ↓W_C, ↓W_bin, ↓W_un, ↓W_chain, ↓W_tru, ↓W_tst, ↓W_notT, ↓W_andT, ↓W_orT, ↓W_andV, ↓W_orV, ↓W_notV, ↓W_if, ↓W_nil, ↓W_cons, ↓W_tup, ↓W_lst, ↓W_call, ↓W_callK, ↓W_noPart, ↓W_part, ↓W_sl, ↓W_meth, ↓W_asg, ↓W_name, ↓W_gnil, ↓W_gcons, ↓W_gseq, ↓W_gsub, ↓W_expr, ↓W_ret, ↓W_retN, ↓W_sif, ↓W_next, ↓W_brk, ↓W_cont, ↓W_sbad, ↓W_seq, ↓W_par2, ↓W_par3, ↓W_for, ↓W_lc, ↓W_yes, ↓W_iseq, ↓W_ienum, ↓W_rng1, ↓W_rng2, ↓W_while, ↓W_fun, ↓W_subD, ↓W_addI, ↓W_addS, ↓W_addT, ↓W_mulI, ↓W_fdiv, ↓W_mod, ↓W_neg, ↓W_ord, ↓W_isi, ↓W_is, ↓W_isnt, ↓W_lenT, ↓W_lenN, ↓W_intI, ↓W_intB, ↓W_abs, ↓W_max2, ↓W_min2, ↓W_divmod, ↓W_tupleT, ↓W_tupleN, ↓W_listT, ↓W_eqI, ↓W_neI, ↓W_eqB, ↓W_neB, ↓W_ix0, ↓W_ix1, ↓W_ix2, ↓its_new, ↓its_tup, ↓lst_new, En.pick, List.filterMap_cons, List.filterMap_nil, tyN, tyM, isT, truD, En.isNon, startE, wipeE, List.map_cons, List.map_nil, List.length_cons, List.length_nil, List.cons_append, List.nil_append, List.replicate_succ, List.replicate_zero, List.getElem?_cons_succ, List.getElem?_cons_zero, List.set_cons_succ, List.set_cons_zero, Nat.reduceSub, Nat.reduceAdd, Nat.zero_add, Nat.reduceLeDiff, Nat.sub_self, Bool.not_true, Bool.not_false, Bool.true_and, Bool.and_true, Bool.false_and, Bool.and_false, Bool.or_true, Bool.true_or, Bool.false_or, Bool.or_false, Bool.false_eq_true, if_true, if_false, ite_true, ite_false, true_and, and_true, decide_true, decide_false, String.reduceBEq, beq_self_eq_true, bne_self_eq_false, Bool.or_self, Bool.and_self, reduceCtorEq, Option.some.injEq, Bool.decide_eq_true, decide_eq_true_eq]
      by_cases c30 : i = 30
      · subst c30
        simp only [show (((30 : Nat) : Int) == 30) = true from rfl, ↓W_sortSet, ↓W_slT, ↓W_var, ↓W_C, ↓W_bin, ↓W_un, ↓W_chain, ↓W_tru, ↓W_tst, ↓W_notT, ↓W_andT, ↓W_orT, ↓W_andV, ↓W_orV, ↓W_notV, ↓W_if, ↓W_nil, ↓W_cons, ↓W_tup, ↓W_lst, ↓W_call, ↓W_callK, ↓W_noPart, ↓W_part, ↓W_sl, ↓W_meth, ↓W_asg, ↓W_name, ↓W_gnil, ↓W_gcons, ↓W_gseq, ↓W_gsub, ↓W_expr, ↓W_ret, ↓W_retN, ↓W_sif, ↓W_next, ↓W_brk, ↓W_cont, ↓W_sbad, ↓W_seq, ↓W_par2, ↓W_par3, ↓W_for, ↓W_lc, ↓W_yes, ↓W_iseq, ↓W_ienum, ↓W_rng1, ↓W_rng2, ↓W_while, ↓W_fun, ↓W_subD, ↓W_addI, ↓W_addS, ↓W_addT, ↓W_mulI, ↓W_fdiv, ↓W_mod, ↓W_neg, ↓W_ord, ↓W_isi, ↓W_is, ↓W_isnt, ↓W_lenT, ↓W_lenN, ↓W_intI, ↓W_intB, ↓W_abs, ↓W_max2, ↓W_min2, ↓W_divmod, ↓W_tupleT, ↓W_tupleN, ↓W_listT, ↓W_eqI, ↓W_neI, ↓W_eqB, ↓W_neB, ↓W_ix0, ↓W_ix1, ↓W_ix2, ↓its_new, ↓its_tup, ↓lst_new, En.pick, List.filterMap_cons, List.filterMap_nil, tyN, tyM, isT, truD, En.isNon, startE, wipeE, List.map_cons, List.map_nil, List.length_cons, List.length_nil, List.cons_append, List.nil_append, List.replicate_succ, List.replicate_zero, List.getElem?_cons_succ, List.getElem?_cons_zero, List.set_cons_succ, List.set_cons_zero, Nat.reduceSub, Nat.reduceAdd, Nat.zero_add, Nat.reduceLeDiff, Nat.sub_self, Bool.not_true, Bool.not_false, Bool.true_and, Bool.and_true, Bool.false_and, Bool.and_false, Bool.or_true, Bool.true_or, Bool.false_or, Bool.or_false, Bool.false_eq_true, if_true, if_false, ite_true, ite_false, true_and, and_true, decide_true, decide_false, String.reduceBEq, beq_self_eq_true, bne_self_eq_false, Bool.or_self, Bool.and_self, reduceCtorEq, Option.some.injEq, Bool.decide_eq_true, decide_eq_true_eq]
        exact bad 30 _ (by rw [eo]; simp [okAt]) s
      · have e30 : ((i : Int) == 30) = false := by simp; omega
        have e30' : (i == 30) = false := by simp; exact c30
        simp only [e30, ↓W_sortSet, ↓W_slT, ↓W_var, ↓W_C, ↓W_bin, ↓W_un, ↓W_chain, ↓W_tru, ↓W_tst, ↓W_notT, ↓W_andT, ↓W_orT, ↓W_andV, ↓W_orV, ↓W_notV, ↓W_if, ↓W_nil, ↓W_cons, ↓W_tup, ↓W_lst, ↓W_call, ↓W_callK, ↓W_noPart, ↓W_part, ↓W_sl, ↓W_meth, ↓W_asg, ↓W_name, ↓W_gnil, ↓W_gcons, ↓W_gseq, ↓W_gsub, ↓W_expr, ↓W_ret, ↓W_retN, ↓W_sif, ↓W_next, ↓W_brk, ↓W_cont, ↓W_sbad, ↓W_seq, ↓W_par2, ↓W_par3, ↓W_for, ↓W_lc, ↓W_yes, ↓W_iseq, ↓W_ienum, ↓W_rng1, ↓W_rng2, ↓W_while, ↓W_fun, ↓W_subD, ↓W_addI, ↓W_addS, ↓W_addT, ↓W_mulI, ↓W_fdiv, ↓W_mod, ↓W_neg, ↓W_ord, ↓W_isi, ↓W_is, ↓W_isnt, ↓W_lenT, ↓W_lenN, ↓W_intI, ↓W_intB, ↓W_abs, ↓W_max2, ↓W_min2, ↓W_divmod, ↓W_tupleT, ↓W_tupleN, ↓W_listT, ↓W_eqI, ↓W_neI, ↓W_eqB, ↓W_neB, ↓W_ix0, ↓W_ix1, ↓W_ix2, ↓its_new, ↓its_tup, ↓lst_new, En.pick, List.filterMap_cons, List.filterMap_nil, tyN, tyM, isT, truD, En.isNon, startE, wipeE, List.map_cons, List.map_nil, List.length_cons, List.length_nil, List.cons_append, List.nil_append, List.replicate_succ, List.replicate_zero, List.getElem?_cons_succ, List.getElem?_cons_zero, List.set_cons_succ, List.set_cons_zero, Nat.reduceSub, Nat.reduceAdd, Nat.zero_add, Nat.reduceLeDiff, Nat.sub_self, Bool.not_true, Bool.not_false, Bool.true_and, Bool.and_true, Bool.false_and, Bool.and_false, Bool.or_true, Bool.true_or, Bool.false_or, Bool.or_false, Bool.false_eq_true, if_true, if_false, ite_true, ite_false, true_and, and_true, decide_true, decide_false, String.reduceBEq, beq_self_eq_true, bne_self_eq_false, Bool.or_self, Bool.and_self, reduceCtorEq, Option.some.injEq, Bool.decide_eq_true, decide_eq_true_eq]
        rw [W_ixN its_tup (int_at hj)]
        simp only [W_law_is_whole, ↓W_sortSet, ↓W_slT, ↓W_var, ↓W_C, ↓W_bin, ↓W_un, ↓W_chain, ↓W_tru, ↓W_tst, ↓W_notT, ↓W_andT, ↓W_orT, ↓W_andV, ↓W_orV, ↓W_notV, ↓W_if, ↓W_nil, ↓W_cons, ↓W_tup, ↓W_lst, ↓W_call, ↓W_callK, ↓W_noPart, ↓W_part, ↓W_sl, ↓W_meth, ↓W_asg, ↓W_name, ↓W_gnil, ↓W_gcons, ↓W_gseq, ↓W_gsub, ↓W_expr, ↓W_ret, ↓W_retN, ↓W_sif, ↓W_next, ↓W_brk, ↓W_cont, ↓W_sbad, ↓W_seq, ↓W_par2, ↓W_par3, ↓W_for, ↓W_lc, ↓W_yes, ↓W_iseq, ↓W_ienum, ↓W_rng1, ↓W_rng2, ↓W_while, ↓W_fun, ↓W_subD, ↓W_addI, ↓W_addS, ↓W_addT, ↓W_mulI, ↓W_fdiv, ↓W_mod, ↓W_neg, ↓W_ord, ↓W_isi, ↓W_is, ↓W_isnt, ↓W_lenT, ↓W_lenN, ↓W_intI, ↓W_intB, ↓W_abs, ↓W_max2, ↓W_min2, ↓W_divmod, ↓W_tupleT, ↓W_tupleN, ↓W_listT, ↓W_eqI, ↓W_neI, ↓W_eqB, ↓W_neB, ↓W_ix0, ↓W_ix1, ↓W_ix2, ↓its_new, ↓its_tup, ↓lst_new, En.pick, List.filterMap_cons, List.filterMap_nil, tyN, tyM, isT, truD, En.isNon, startE, wipeE, List.map_cons, List.map_nil, List.length_cons, List.length_nil, List.cons_append, List.nil_append, List.replicate_succ, List.replicate_zero, List.getElem?_cons_succ, List.getElem?_cons_zero, List.set_cons_succ, List.set_cons_zero, Nat.reduceSub, Nat.reduceAdd, Nat.zero_add, Nat.reduceLeDiff, Nat.sub_self, Bool.not_true, Bool.not_false, Bool.true_and, Bool.and_true, Bool.false_and, Bool.and_false, Bool.or_true, Bool.true_or, Bool.false_or, Bool.or_false, Bool.false_eq_true, if_true, if_false, ite_true, ite_false, true_and, and_true, decide_true, decide_false, String.reduceBEq, beq_self_eq_true, bne_self_eq_false, Bool.or_self, Bool.and_self, reduceCtorEq, Option.some.injEq, Bool.decide_eq_true, decide_eq_true_eq]
        by_cases c0 : i = 0
        · subst c0
          simp only [show (((0 : Nat) : Int) == 0) = true from rfl, show ¬ ((0 : Int) < ((0 : Nat) : Int)) from by omega, ↓W_sortSet, ↓W_slT, ↓W_var, ↓W_C, ↓W_bin, ↓W_un, ↓W_chain, ↓W_tru, ↓W_tst, ↓W_notT, ↓W_andT, ↓W_orT, ↓W_andV, ↓W_orV, ↓W_notV, ↓W_if, ↓W_nil, ↓W_cons, ↓W_tup, ↓W_lst, ↓W_call, ↓W_callK, ↓W_noPart, ↓W_part, ↓W_sl, ↓W_meth, ↓W_asg, ↓W_name, ↓W_gnil, ↓W_gcons, ↓W_gseq, ↓W_gsub, ↓W_expr, ↓W_ret, ↓W_retN, ↓W_sif, ↓W_next, ↓W_brk, ↓W_cont, ↓W_sbad, ↓W_seq, ↓W_par2, ↓W_par3, ↓W_for, ↓W_lc, ↓W_yes, ↓W_iseq, ↓W_ienum, ↓W_rng1, ↓W_rng2, ↓W_while, ↓W_fun, ↓W_subD, ↓W_addI, ↓W_addS, ↓W_addT, ↓W_mulI, ↓W_fdiv, ↓W_mod, ↓W_neg, ↓W_ord, ↓W_isi, ↓W_is, ↓W_isnt, ↓W_lenT, ↓W_lenN, ↓W_intI, ↓W_intB, ↓W_abs, ↓W_max2, ↓W_min2, ↓W_divmod, ↓W_tupleT, ↓W_tupleN, ↓W_listT, ↓W_eqI, ↓W_neI, ↓W_eqB, ↓W_neB, ↓W_ix0, ↓W_ix1, ↓W_ix2, ↓its_new, ↓its_tup, ↓lst_new, En.pick, List.filterMap_cons, List.filterMap_nil, tyN, tyM, isT, truD, En.isNon, startE, wipeE, List.map_cons, List.map_nil, List.length_cons, List.length_nil, List.cons_append, List.nil_append, List.replicate_succ, List.replicate_zero, List.getElem?_cons_succ, List.getElem?_cons_zero, List.set_cons_succ, List.set_cons_zero, Nat.reduceSub, Nat.reduceAdd, Nat.zero_add, Nat.reduceLeDiff, Nat.sub_self, Bool.not_true, Bool.not_false, Bool.true_and, Bool.and_true, Bool.false_and, Bool.and_false, Bool.or_true, Bool.true_or, Bool.false_or, Bool.or_false, Bool.false_eq_true, if_true, if_false, ite_true, ite_false, true_and, and_true, decide_true, decide_false, String.reduceBEq, beq_self_eq_true, bne_self_eq_false, Bool.or_self, Bool.and_self, reduceCtorEq, Option.some.injEq, Bool.decide_eq_true, decide_eq_true_eq]
          rw [W_ixN (i := 0) its_tup (int_at hj)]
          try simp only [↓W_sortSet, ↓W_slT, ↓W_var, ↓W_C, ↓W_bin, ↓W_un, ↓W_chain, ↓W_tru, ↓W_tst, ↓W_notT, ↓W_andT, ↓W_orT, ↓W_andV, ↓W_orV, ↓W_notV, ↓W_if, ↓W_nil, ↓W_cons, ↓W_tup, ↓W_lst, ↓W_call, ↓W_callK, ↓W_noPart, ↓W_part, ↓W_sl, ↓W_meth, ↓W_asg, ↓W_name, ↓W_gnil, ↓W_gcons, ↓W_gseq, ↓W_gsub, ↓W_expr, ↓W_ret, ↓W_retN, ↓W_sif, ↓W_next, ↓W_brk, ↓W_cont, ↓W_sbad, ↓W_seq, ↓W_par2, ↓W_par3, ↓W_for, ↓W_lc, ↓W_yes, ↓W_iseq, ↓W_ienum, ↓W_rng1, ↓W_rng2, ↓W_while, ↓W_fun, ↓W_subD, ↓W_addI, ↓W_addS, ↓W_addT, ↓W_mulI, ↓W_fdiv, ↓W_mod, ↓W_neg, ↓W_ord, ↓W_isi, ↓W_is, ↓W_isnt, ↓W_lenT, ↓W_lenN, ↓W_intI, ↓W_intB, ↓W_abs, ↓W_max2, ↓W_min2, ↓W_divmod, ↓W_tupleT, ↓W_tupleN, ↓W_listT, ↓W_eqI, ↓W_neI, ↓W_eqB, ↓W_neB, ↓W_ix0, ↓W_ix1, ↓W_ix2, ↓its_new, ↓its_tup, ↓lst_new, En.pick, List.filterMap_cons, List.filterMap_nil, tyN, tyM, isT, truD, En.isNon, startE, wipeE, List.map_cons, List.map_nil, List.length_cons, List.length_nil, List.cons_append, List.nil_append, List.replicate_succ, List.replicate_zero, List.getElem?_cons_succ, List.getElem?_cons_zero, List.set_cons_succ, List.set_cons_zero, Nat.reduceSub, Nat.reduceAdd, Nat.zero_add, Nat.reduceLeDiff, Nat.sub_self, Bool.not_true, Bool.not_false, Bool.true_and, Bool.and_true, Bool.false_and, Bool.and_false, Bool.or_true, Bool.true_or, Bool.false_or, Bool.or_false, Bool.false_eq_true, if_true, if_false, ite_true, ite_false, true_and, and_true, decide_true, decide_false, String.reduceBEq, beq_self_eq_true, bne_self_eq_false, Bool.or_self, Bool.and_self, reduceCtorEq, Option.some.injEq, Bool.decide_eq_true, decide_eq_true_eq]
          cases c1 : (at' l 0 == (1 : Int)) with
          | false =>
            simp only [c1, ↓W_sortSet, ↓W_slT, ↓W_var, ↓W_C, ↓W_bin, ↓W_un, ↓W_chain, ↓W_tru, ↓W_tst, ↓W_notT, ↓W_andT, ↓W_orT, ↓W_andV, ↓W_orV, ↓W_notV, ↓W_if, ↓W_nil, ↓W_cons, ↓W_tup, ↓W_lst, ↓W_call, ↓W_callK, ↓W_noPart, ↓W_part, ↓W_sl, ↓W_meth, ↓W_asg, ↓W_name, ↓W_gnil, ↓W_gcons, ↓W_gseq, ↓W_gsub, ↓W_expr, ↓W_ret, ↓W_retN, ↓W_sif, ↓W_next, ↓W_brk, ↓W_cont, ↓W_sbad, ↓W_seq, ↓W_par2, ↓W_par3, ↓W_for, ↓W_lc, ↓W_yes, ↓W_iseq, ↓W_ienum, ↓W_rng1, ↓W_rng2, ↓W_while, ↓W_fun, ↓W_subD, ↓W_addI, ↓W_addS, ↓W_addT, ↓W_mulI, ↓W_fdiv, ↓W_mod, ↓W_neg, ↓W_ord, ↓W_isi, ↓W_is, ↓W_isnt, ↓W_lenT, ↓W_lenN, ↓W_intI, ↓W_intB, ↓W_abs, ↓W_max2, ↓W_min2, ↓W_divmod, ↓W_tupleT, ↓W_tupleN, ↓W_listT, ↓W_eqI, ↓W_neI, ↓W_eqB, ↓W_neB, ↓W_ix0, ↓W_ix1, ↓W_ix2, ↓its_new, ↓its_tup, ↓lst_new, En.pick, List.filterMap_cons, List.filterMap_nil, tyN, tyM, isT, truD, En.isNon, startE, wipeE, List.map_cons, List.map_nil, List.length_cons, List.length_nil, List.cons_append, List.nil_append, List.replicate_succ, List.replicate_zero, List.getElem?_cons_succ, List.getElem?_cons_zero, List.set_cons_succ, List.set_cons_zero, Nat.reduceSub, Nat.reduceAdd, Nat.zero_add, Nat.reduceLeDiff, Nat.sub_self, Bool.not_true, Bool.not_false, Bool.true_and, Bool.and_true, Bool.false_and, Bool.and_false, Bool.or_true, Bool.true_or, Bool.false_or, Bool.or_false, Bool.false_eq_true, if_true, if_false, ite_true, ite_false, true_and, and_true, decide_true, decide_false, String.reduceBEq, beq_self_eq_true, bne_self_eq_false, Bool.or_self, Bool.and_self, reduceCtorEq, Option.some.injEq, Bool.decide_eq_true, decide_eq_true_eq]
            exact bad 0 _ (by rw [eo]; simp [okAt, c1]) s
          | true =>
            simp only [c1, ↓W_sortSet, ↓W_slT, ↓W_var, ↓W_C, ↓W_bin, ↓W_un, ↓W_chain, ↓W_tru, ↓W_tst, ↓W_notT, ↓W_andT, ↓W_orT, ↓W_andV, ↓W_orV, ↓W_notV, ↓W_if, ↓W_nil, ↓W_cons, ↓W_tup, ↓W_lst, ↓W_call, ↓W_callK, ↓W_noPart, ↓W_part, ↓W_sl, ↓W_meth, ↓W_asg, ↓W_name, ↓W_gnil, ↓W_gcons, ↓W_gseq, ↓W_gsub, ↓W_expr, ↓W_ret, ↓W_retN, ↓W_sif, ↓W_next, ↓W_brk, ↓W_cont, ↓W_sbad, ↓W_seq, ↓W_par2, ↓W_par3, ↓W_for, ↓W_lc, ↓W_yes, ↓W_iseq, ↓W_ienum, ↓W_rng1, ↓W_rng2, ↓W_while, ↓W_fun, ↓W_subD, ↓W_addI, ↓W_addS, ↓W_addT, ↓W_mulI, ↓W_fdiv, ↓W_mod, ↓W_neg, ↓W_ord, ↓W_isi, ↓W_is, ↓W_isnt, ↓W_lenT, ↓W_lenN, ↓W_intI, ↓W_intB, ↓W_abs, ↓W_max2, ↓W_min2, ↓W_divmod, ↓W_tupleT, ↓W_tupleN, ↓W_listT, ↓W_eqI, ↓W_neI, ↓W_eqB, ↓W_neB, ↓W_ix0, ↓W_ix1, ↓W_ix2, ↓its_new, ↓its_tup, ↓lst_new, En.pick, List.filterMap_cons, List.filterMap_nil, tyN, tyM, isT, truD, En.isNon, startE, wipeE, List.map_cons, List.map_nil, List.length_cons, List.length_nil, List.cons_append, List.nil_append, List.replicate_succ, List.replicate_zero, List.getElem?_cons_succ, List.getElem?_cons_zero, List.set_cons_succ, List.set_cons_zero, Nat.reduceSub, Nat.reduceAdd, Nat.zero_add, Nat.reduceLeDiff, Nat.sub_self, Bool.not_true, Bool.not_false, Bool.true_and, Bool.and_true, Bool.false_and, Bool.and_false, Bool.or_true, Bool.true_or, Bool.false_or, Bool.or_false, Bool.false_eq_true, if_true, if_false, ite_true, ite_false, true_and, and_true, decide_true, decide_false, String.reduceBEq, beq_self_eq_true, bne_self_eq_false, Bool.or_self, Bool.and_self, reduceCtorEq, Option.some.injEq, Bool.decide_eq_true, decide_eq_true_eq]
            exact ⟨s, 1, m, _, rfl, by omega, by rw [eo]; simp only [okAt, c1]; rfl, rfl⟩
        · have e0 : ((i : Int) == 0) = false := by simp; omega
          have g0 : (0 : Int) < (i : Int) := by omega
          simp only [e0, g0, ↓W_sortSet, ↓W_slT, ↓W_var, ↓W_C, ↓W_bin, ↓W_un, ↓W_chain, ↓W_tru, ↓W_tst, ↓W_notT, ↓W_andT, ↓W_orT, ↓W_andV, ↓W_orV, ↓W_notV, ↓W_if, ↓W_nil, ↓W_cons, ↓W_tup, ↓W_lst, ↓W_call, ↓W_callK, ↓W_noPart, ↓W_part, ↓W_sl, ↓W_meth, ↓W_asg, ↓W_name, ↓W_gnil, ↓W_gcons, ↓W_gseq, ↓W_gsub, ↓W_expr, ↓W_ret, ↓W_retN, ↓W_sif, ↓W_next, ↓W_brk, ↓W_cont, ↓W_sbad, ↓W_seq, ↓W_par2, ↓W_par3, ↓W_for, ↓W_lc, ↓W_yes, ↓W_iseq, ↓W_ienum, ↓W_rng1, ↓W_rng2, ↓W_while, ↓W_fun, ↓W_subD, ↓W_addI, ↓W_addS, ↓W_addT, ↓W_mulI, ↓W_fdiv, ↓W_mod, ↓W_neg, ↓W_ord, ↓W_isi, ↓W_is, ↓W_isnt, ↓W_lenT, ↓W_lenN, ↓W_intI, ↓W_intB, ↓W_abs, ↓W_max2, ↓W_min2, ↓W_divmod, ↓W_tupleT, ↓W_tupleN, ↓W_listT, ↓W_eqI, ↓W_neI, ↓W_eqB, ↓W_neB, ↓W_ix0, ↓W_ix1, ↓W_ix2, ↓its_new, ↓its_tup, ↓lst_new, En.pick, List.filterMap_cons, List.filterMap_nil, tyN, tyM, isT, truD, En.isNon, startE, wipeE, List.map_cons, List.map_nil, List.length_cons, List.length_nil, List.cons_append, List.nil_append, List.replicate_succ, List.replicate_zero, List.getElem?_cons_succ, List.getElem?_cons_zero, List.set_cons_succ, List.set_cons_zero, Nat.reduceSub, Nat.reduceAdd, Nat.zero_add, Nat.reduceLeDiff, Nat.sub_self, Bool.not_true, Bool.not_false, Bool.true_and, Bool.and_true, Bool.false_and, Bool.and_false, Bool.or_true, Bool.true_or, Bool.false_or, Bool.or_false, Bool.false_eq_true, if_true, if_false, ite_true, ite_false, true_and, and_true, decide_true, decide_false, String.reduceBEq, beq_self_eq_true, bne_self_eq_false, Bool.or_self, Bool.and_self, reduceCtorEq, Option.some.injEq, Bool.decide_eq_true, decide_eq_true_eq]
          rw [W_ixN its_tup (int_at hj)]
          try simp only [↓W_sortSet, ↓W_slT, ↓W_var, ↓W_C, ↓W_bin, ↓W_un, ↓W_chain, ↓W_tru, ↓W_tst, ↓W_notT, ↓W_andT, ↓W_orT, ↓W_andV, ↓W_orV, ↓W_notV, ↓W_if, ↓W_nil, ↓W_cons, ↓W_tup, ↓W_lst, ↓W_call, ↓W_callK, ↓W_noPart, ↓W_part, ↓W_sl, ↓W_meth, ↓W_asg, ↓W_name, ↓W_gnil, ↓W_gcons, ↓W_gseq, ↓W_gsub, ↓W_expr, ↓W_ret, ↓W_retN, ↓W_sif, ↓W_next, ↓W_brk, ↓W_cont, ↓W_sbad, ↓W_seq, ↓W_par2, ↓W_par3, ↓W_for, ↓W_lc, ↓W_yes, ↓W_iseq, ↓W_ienum, ↓W_rng1, ↓W_rng2, ↓W_while, ↓W_fun, ↓W_subD, ↓W_addI, ↓W_addS, ↓W_addT, ↓W_mulI, ↓W_fdiv, ↓W_mod, ↓W_neg, ↓W_ord, ↓W_isi, ↓W_is, ↓W_isnt, ↓W_lenT, ↓W_lenN, ↓W_intI, ↓W_intB, ↓W_abs, ↓W_max2, ↓W_min2, ↓W_divmod, ↓W_tupleT, ↓W_tupleN, ↓W_listT, ↓W_eqI, ↓W_neI, ↓W_eqB, ↓W_neB, ↓W_ix0, ↓W_ix1, ↓W_ix2, ↓its_new, ↓its_tup, ↓lst_new, En.pick, List.filterMap_cons, List.filterMap_nil, tyN, tyM, isT, truD, En.isNon, startE, wipeE, List.map_cons, List.map_nil, List.length_cons, List.length_nil, List.cons_append, List.nil_append, List.replicate_succ, List.replicate_zero, List.getElem?_cons_succ, List.getElem?_cons_zero, List.set_cons_succ, List.set_cons_zero, Nat.reduceSub, Nat.reduceAdd, Nat.zero_add, Nat.reduceLeDiff, Nat.sub_self, Bool.not_true, Bool.not_false, Bool.true_and, Bool.and_true, Bool.false_and, Bool.and_false, Bool.or_true, Bool.true_or, Bool.false_or, Bool.or_false, Bool.false_eq_true, if_true, if_false, ite_true, ite_false, true_and, and_true, decide_true, decide_false, String.reduceBEq, beq_self_eq_true, bne_self_eq_false, Bool.or_self, Bool.and_self, reduceCtorEq, Option.some.injEq, Bool.decide_eq_true, decide_eq_true_eq]
          rw [show ((i : Int) - 1) = ((i - 1 : Nat) : Int) from by omega, W_ixN its_tup (int_at (i := i - 1) (by omega))]
          try simp only [↓W_sortSet, ↓W_slT, ↓W_var, ↓W_C, ↓W_bin, ↓W_un, ↓W_chain, ↓W_tru, ↓W_tst, ↓W_notT, ↓W_andT, ↓W_orT, ↓W_andV, ↓W_orV, ↓W_notV, ↓W_if, ↓W_nil, ↓W_cons, ↓W_tup, ↓W_lst, ↓W_call, ↓W_callK, ↓W_noPart, ↓W_part, ↓W_sl, ↓W_meth, ↓W_asg, ↓W_name, ↓W_gnil, ↓W_gcons, ↓W_gseq, ↓W_gsub, ↓W_expr, ↓W_ret, ↓W_retN, ↓W_sif, ↓W_next, ↓W_brk, ↓W_cont, ↓W_sbad, ↓W_seq, ↓W_par2, ↓W_par3, ↓W_for, ↓W_lc, ↓W_yes, ↓W_iseq, ↓W_ienum, ↓W_rng1, ↓W_rng2, ↓W_while, ↓W_fun, ↓W_subD, ↓W_addI, ↓W_addS, ↓W_addT, ↓W_mulI, ↓W_fdiv, ↓W_mod, ↓W_neg, ↓W_ord, ↓W_isi, ↓W_is, ↓W_isnt, ↓W_lenT, ↓W_lenN, ↓W_intI, ↓W_intB, ↓W_abs, ↓W_max2, ↓W_min2, ↓W_divmod, ↓W_tupleT, ↓W_tupleN, ↓W_listT, ↓W_eqI, ↓W_neI, ↓W_eqB, ↓W_neB, ↓W_ix0, ↓W_ix1, ↓W_ix2, ↓its_new, ↓its_tup, ↓lst_new, En.pick, List.filterMap_cons, List.filterMap_nil, tyN, tyM, isT, truD, En.isNon, startE, wipeE, List.map_cons, List.map_nil, List.length_cons, List.length_nil, List.cons_append, List.nil_append, List.replicate_succ, List.replicate_zero, List.getElem?_cons_succ, List.getElem?_cons_zero, List.set_cons_succ, List.set_cons_zero, Nat.reduceSub, Nat.reduceAdd, Nat.zero_add, Nat.reduceLeDiff, Nat.sub_self, Bool.not_true, Bool.not_false, Bool.true_and, Bool.and_true, Bool.false_and, Bool.and_false, Bool.or_true, Bool.true_or, Bool.false_or, Bool.or_false, Bool.false_eq_true, if_true, if_false, ite_true, ite_false, true_and, and_true, decide_true, decide_false, String.reduceBEq, beq_self_eq_true, bne_self_eq_false, Bool.or_self, Bool.and_self, reduceCtorEq, Option.some.injEq, Bool.decide_eq_true, decide_eq_true_eq]
          have oa : okAt l i = (decide (at' l (i - 1) < at' l i) && sumIn (l.take i) (at' l i)) := by
            simp only [okAt, e30', if_neg c0, Bool.not_false, Bool.true_and]
          by_cases cl : at' l i ≤ at' l (i - 1)
          · simp only [cl, ↓W_sortSet, ↓W_slT, ↓W_var, ↓W_C, ↓W_bin, ↓W_un, ↓W_chain, ↓W_tru, ↓W_tst, ↓W_notT, ↓W_andT, ↓W_orT, ↓W_andV, ↓W_orV, ↓W_notV, ↓W_if, ↓W_nil, ↓W_cons, ↓W_tup, ↓W_lst, ↓W_call, ↓W_callK, ↓W_noPart, ↓W_part, ↓W_sl, ↓W_meth, ↓W_asg, ↓W_name, ↓W_gnil, ↓W_gcons, ↓W_gseq, ↓W_gsub, ↓W_expr, ↓W_ret, ↓W_retN, ↓W_sif, ↓W_next, ↓W_brk, ↓W_cont, ↓W_sbad, ↓W_seq, ↓W_par2, ↓W_par3, ↓W_for, ↓W_lc, ↓W_yes, ↓W_iseq, ↓W_ienum, ↓W_rng1, ↓W_rng2, ↓W_while, ↓W_fun, ↓W_subD, ↓W_addI, ↓W_addS, ↓W_addT, ↓W_mulI, ↓W_fdiv, ↓W_mod, ↓W_neg, ↓W_ord, ↓W_isi, ↓W_is, ↓W_isnt, ↓W_lenT, ↓W_lenN, ↓W_intI, ↓W_intB, ↓W_abs, ↓W_max2, ↓W_min2, ↓W_divmod, ↓W_tupleT, ↓W_tupleN, ↓W_listT, ↓W_eqI, ↓W_neI, ↓W_eqB, ↓W_neB, ↓W_ix0, ↓W_ix1, ↓W_ix2, ↓its_new, ↓its_tup, ↓lst_new, En.pick, List.filterMap_cons, List.filterMap_nil, tyN, tyM, isT, truD, En.isNon, startE, wipeE, List.map_cons, List.map_nil, List.length_cons, List.length_nil, List.cons_append, List.nil_append, List.replicate_succ, List.replicate_zero, List.getElem?_cons_succ, List.getElem?_cons_zero, List.set_cons_succ, List.set_cons_zero, Nat.reduceSub, Nat.reduceAdd, Nat.zero_add, Nat.reduceLeDiff, Nat.sub_self, Bool.not_true, Bool.not_false, Bool.true_and, Bool.and_true, Bool.false_and, Bool.and_false, Bool.or_true, Bool.true_or, Bool.false_or, Bool.or_false, Bool.false_eq_true, if_true, if_false, ite_true, ite_false, true_and, and_true, decide_true, decide_false, String.reduceBEq, beq_self_eq_true, bne_self_eq_false, Bool.or_self, Bool.and_self, reduceCtorEq, Option.some.injEq, Bool.decide_eq_true, decide_eq_true_eq]
            exact bad i _ (by rw [eo, oa, decide_eq_false (by omega)]; rfl) s
          · simp only [cl, ↓W_sortSet, ↓W_slT, ↓W_var, ↓W_C, ↓W_bin, ↓W_un, ↓W_chain, ↓W_tru, ↓W_tst, ↓W_notT, ↓W_andT, ↓W_orT, ↓W_andV, ↓W_orV, ↓W_notV, ↓W_if, ↓W_nil, ↓W_cons, ↓W_tup, ↓W_lst, ↓W_call, ↓W_callK, ↓W_noPart, ↓W_part, ↓W_sl, ↓W_meth, ↓W_asg, ↓W_name, ↓W_gnil, ↓W_gcons, ↓W_gseq, ↓W_gsub, ↓W_expr, ↓W_ret, ↓W_retN, ↓W_sif, ↓W_next, ↓W_brk, ↓W_cont, ↓W_sbad, ↓W_seq, ↓W_par2, ↓W_par3, ↓W_for, ↓W_lc, ↓W_yes, ↓W_iseq, ↓W_ienum, ↓W_rng1, ↓W_rng2, ↓W_while, ↓W_fun, ↓W_subD, ↓W_addI, ↓W_addS, ↓W_addT, ↓W_mulI, ↓W_fdiv, ↓W_mod, ↓W_neg, ↓W_ord, ↓W_isi, ↓W_is, ↓W_isnt, ↓W_lenT, ↓W_lenN, ↓W_intI, ↓W_intB, ↓W_abs, ↓W_max2, ↓W_min2, ↓W_divmod, ↓W_tupleT, ↓W_tupleN, ↓W_listT, ↓W_eqI, ↓W_neI, ↓W_eqB, ↓W_neB, ↓W_ix0, ↓W_ix1, ↓W_ix2, ↓its_new, ↓its_tup, ↓lst_new, En.pick, List.filterMap_cons, List.filterMap_nil, tyN, tyM, isT, truD, En.isNon, startE, wipeE, List.map_cons, List.map_nil, List.length_cons, List.length_nil, List.cons_append, List.nil_append, List.replicate_succ, List.replicate_zero, List.getElem?_cons_succ, List.getElem?_cons_zero, List.set_cons_succ, List.set_cons_zero, Nat.reduceSub, Nat.reduceAdd, Nat.zero_add, Nat.reduceLeDiff, Nat.sub_self, Bool.not_true, Bool.not_false, Bool.true_and, Bool.and_true, Bool.false_and, Bool.and_false, Bool.or_true, Bool.true_or, Bool.false_or, Bool.or_false, Bool.false_eq_true, if_true, if_false, ite_true, ite_false, true_and, and_true, decide_true, decide_false, String.reduceBEq, beq_self_eq_true, bne_self_eq_false, Bool.or_self, Bool.and_self, reduceCtorEq, Option.some.injEq, Bool.decide_eq_true, decide_eq_true_eq]
            refine reasons_spec hj hl fun es S2 s2 ee ho hle => ?_
            try simp only [↓W_sortSet, ↓W_slT, ↓W_var, ↓W_C, ↓W_bin, ↓W_un, ↓W_chain, ↓W_tru, ↓W_tst, ↓W_notT, ↓W_andT, ↓W_orT, ↓W_andV, ↓W_orV, ↓W_notV, ↓W_if, ↓W_nil, ↓W_cons, ↓W_tup, ↓W_lst, ↓W_call, ↓W_callK, ↓W_noPart, ↓W_part, ↓W_sl, ↓W_meth, ↓W_asg, ↓W_name, ↓W_gnil, ↓W_gcons, ↓W_gseq, ↓W_gsub, ↓W_expr, ↓W_ret, ↓W_retN, ↓W_sif, ↓W_next, ↓W_brk, ↓W_cont, ↓W_sbad, ↓W_seq, ↓W_par2, ↓W_par3, ↓W_for, ↓W_lc, ↓W_yes, ↓W_iseq, ↓W_ienum, ↓W_rng1, ↓W_rng2, ↓W_while, ↓W_fun, ↓W_subD, ↓W_addI, ↓W_addS, ↓W_addT, ↓W_mulI, ↓W_fdiv, ↓W_mod, ↓W_neg, ↓W_ord, ↓W_isi, ↓W_is, ↓W_isnt, ↓W_lenT, ↓W_lenN, ↓W_intI, ↓W_intB, ↓W_abs, ↓W_max2, ↓W_min2, ↓W_divmod, ↓W_tupleT, ↓W_tupleN, ↓W_listT, ↓W_eqI, ↓W_neI, ↓W_eqB, ↓W_neB, ↓W_ix0, ↓W_ix1, ↓W_ix2, ↓its_new, ↓its_tup, ↓lst_new, En.pick, List.filterMap_cons, List.filterMap_nil, tyN, tyM, isT, truD, En.isNon, startE, wipeE, List.map_cons, List.map_nil, List.length_cons, List.length_nil, List.cons_append, List.nil_append, List.replicate_succ, List.replicate_zero, List.getElem?_cons_succ, List.getElem?_cons_zero, List.set_cons_succ, List.set_cons_zero, Nat.reduceSub, Nat.reduceAdd, Nat.zero_add, Nat.reduceLeDiff, Nat.sub_self, Bool.not_true, Bool.not_false, Bool.true_and, Bool.and_true, Bool.false_and, Bool.and_false, Bool.or_true, Bool.true_or, Bool.false_or, Bool.or_false, Bool.false_eq_true, if_true, if_false, ite_true, ite_false, true_and, and_true, decide_true, decide_false, String.reduceBEq, beq_self_eq_true, bne_self_eq_false, Bool.or_self, Bool.and_self, reduceCtorEq, Option.some.injEq, Bool.decide_eq_true, decide_eq_true_eq]
            refine ⟨Nat.zero_le _, ?_⟩
            rw [W_eqNil ⟨hle, fun x hx => ok_mono (ho x hx) (by decide)⟩, ee, noSum_eq hj]
            try simp only [↓W_sortSet, ↓W_slT, ↓W_var, ↓W_C, ↓W_bin, ↓W_un, ↓W_chain, ↓W_tru, ↓W_tst, ↓W_notT, ↓W_andT, ↓W_orT, ↓W_andV, ↓W_orV, ↓W_notV, ↓W_if, ↓W_nil, ↓W_cons, ↓W_tup, ↓W_lst, ↓W_call, ↓W_callK, ↓W_noPart, ↓W_part, ↓W_sl, ↓W_meth, ↓W_asg, ↓W_name, ↓W_gnil, ↓W_gcons, ↓W_gseq, ↓W_gsub, ↓W_expr, ↓W_ret, ↓W_retN, ↓W_sif, ↓W_next, ↓W_brk, ↓W_cont, ↓W_sbad, ↓W_seq, ↓W_par2, ↓W_par3, ↓W_for, ↓W_lc, ↓W_yes, ↓W_iseq, ↓W_ienum, ↓W_rng1, ↓W_rng2, ↓W_while, ↓W_fun, ↓W_subD, ↓W_addI, ↓W_addS, ↓W_addT, ↓W_mulI, ↓W_fdiv, ↓W_mod, ↓W_neg, ↓W_ord, ↓W_isi, ↓W_is, ↓W_isnt, ↓W_lenT, ↓W_lenN, ↓W_intI, ↓W_intB, ↓W_abs, ↓W_max2, ↓W_min2, ↓W_divmod, ↓W_tupleT, ↓W_tupleN, ↓W_listT, ↓W_eqI, ↓W_neI, ↓W_eqB, ↓W_neB, ↓W_ix0, ↓W_ix1, ↓W_ix2, ↓its_new, ↓its_tup, ↓lst_new, En.pick, List.filterMap_cons, List.filterMap_nil, tyN, tyM, isT, truD, En.isNon, startE, wipeE, List.map_cons, List.map_nil, List.length_cons, List.length_nil, List.cons_append, List.nil_append, List.replicate_succ, List.replicate_zero, List.getElem?_cons_succ, List.getElem?_cons_zero, List.set_cons_succ, List.set_cons_zero, Nat.reduceSub, Nat.reduceAdd, Nat.zero_add, Nat.reduceLeDiff, Nat.sub_self, Bool.not_true, Bool.not_false, Bool.true_and, Bool.and_true, Bool.false_and, Bool.and_false, Bool.or_true, Bool.true_or, Bool.false_or, Bool.or_false, Bool.false_eq_true, if_true, if_false, ite_true, ite_false, true_and, and_true, decide_true, decide_false, String.reduceBEq, beq_self_eq_true, bne_self_eq_false, Bool.or_self, Bool.and_self, reduceCtorEq, Option.some.injEq, Bool.decide_eq_true, decide_eq_true_eq]
            cases cs : sumIn (l.take i) (at' l i) with
            | false =>
              simp only [↓W_sortSet, ↓W_slT, ↓W_var, ↓W_C, ↓W_bin, ↓W_un, ↓W_chain, ↓W_tru, ↓W_tst, ↓W_notT, ↓W_andT, ↓W_orT, ↓W_andV, ↓W_orV, ↓W_notV, ↓W_if, ↓W_nil, ↓W_cons, ↓W_tup, ↓W_lst, ↓W_call, ↓W_callK, ↓W_noPart, ↓W_part, ↓W_sl, ↓W_meth, ↓W_asg, ↓W_name, ↓W_gnil, ↓W_gcons, ↓W_gseq, ↓W_gsub, ↓W_expr, ↓W_ret, ↓W_retN, ↓W_sif, ↓W_next, ↓W_brk, ↓W_cont, ↓W_sbad, ↓W_seq, ↓W_par2, ↓W_par3, ↓W_for, ↓W_lc, ↓W_yes, ↓W_iseq, ↓W_ienum, ↓W_rng1, ↓W_rng2, ↓W_while, ↓W_fun, ↓W_subD, ↓W_addI, ↓W_addS, ↓W_addT, ↓W_mulI, ↓W_fdiv, ↓W_mod, ↓W_neg, ↓W_ord, ↓W_isi, ↓W_is, ↓W_isnt, ↓W_lenT, ↓W_lenN, ↓W_intI, ↓W_intB, ↓W_abs, ↓W_max2, ↓W_min2, ↓W_divmod, ↓W_tupleT, ↓W_tupleN, ↓W_listT, ↓W_eqI, ↓W_neI, ↓W_eqB, ↓W_neB, ↓W_ix0, ↓W_ix1, ↓W_ix2, ↓its_new, ↓its_tup, ↓lst_new, En.pick, List.filterMap_cons, List.filterMap_nil, tyN, tyM, isT, truD, En.isNon, startE, wipeE, List.map_cons, List.map_nil, List.length_cons, List.length_nil, List.cons_append, List.nil_append, List.replicate_succ, List.replicate_zero, List.getElem?_cons_succ, List.getElem?_cons_zero, List.set_cons_succ, List.set_cons_zero, Nat.reduceSub, Nat.reduceAdd, Nat.zero_add, Nat.reduceLeDiff, Nat.sub_self, Bool.not_true, Bool.not_false, Bool.true_and, Bool.and_true, Bool.false_and, Bool.and_false, Bool.or_true, Bool.true_or, Bool.false_or, Bool.or_false, Bool.false_eq_true, if_true, if_false, ite_true, ite_false, true_and, and_true, decide_true, decide_false, String.reduceBEq, beq_self_eq_true, bne_self_eq_false, Bool.or_self, Bool.and_self, reduceCtorEq, Option.some.injEq, Bool.decide_eq_true, decide_eq_true_eq]
              exact bad i _ (by rw [eo, oa, cs, Bool.and_false]; rfl) (s.trans s2)
            | true =>
              simp only [↓W_sortSet, ↓W_slT, ↓W_var, ↓W_C, ↓W_bin, ↓W_un, ↓W_chain, ↓W_tru, ↓W_tst, ↓W_notT, ↓W_andT, ↓W_orT, ↓W_andV, ↓W_orV, ↓W_notV, ↓W_if, ↓W_nil, ↓W_cons, ↓W_tup, ↓W_lst, ↓W_call, ↓W_callK, ↓W_noPart, ↓W_part, ↓W_sl, ↓W_meth, ↓W_asg, ↓W_name, ↓W_gnil, ↓W_gcons, ↓W_gseq, ↓W_gsub, ↓W_expr, ↓W_ret, ↓W_retN, ↓W_sif, ↓W_next, ↓W_brk, ↓W_cont, ↓W_sbad, ↓W_seq, ↓W_par2, ↓W_par3, ↓W_for, ↓W_lc, ↓W_yes, ↓W_iseq, ↓W_ienum, ↓W_rng1, ↓W_rng2, ↓W_while, ↓W_fun, ↓W_subD, ↓W_addI, ↓W_addS, ↓W_addT, ↓W_mulI, ↓W_fdiv, ↓W_mod, ↓W_neg, ↓W_ord, ↓W_isi, ↓W_is, ↓W_isnt, ↓W_lenT, ↓W_lenN, ↓W_intI, ↓W_intB, ↓W_abs, ↓W_max2, ↓W_min2, ↓W_divmod, ↓W_tupleT, ↓W_tupleN, ↓W_listT, ↓W_eqI, ↓W_neI, ↓W_eqB, ↓W_neB, ↓W_ix0, ↓W_ix1, ↓W_ix2, ↓its_new, ↓its_tup, ↓lst_new, En.pick, List.filterMap_cons, List.filterMap_nil, tyN, tyM, isT, truD, En.isNon, startE, wipeE, List.map_cons, List.map_nil, List.length_cons, List.length_nil, List.cons_append, List.nil_append, List.replicate_succ, List.replicate_zero, List.getElem?_cons_succ, List.getElem?_cons_zero, List.set_cons_succ, List.set_cons_zero, Nat.reduceSub, Nat.reduceAdd, Nat.zero_add, Nat.reduceLeDiff, Nat.sub_self, Bool.not_true, Bool.not_false, Bool.true_and, Bool.and_true, Bool.false_and, Bool.and_false, Bool.or_true, Bool.true_or, Bool.false_or, Bool.or_false, Bool.false_eq_true, if_true, if_false, ite_true, ite_false, true_and, and_true, decide_true, decide_false, String.reduceBEq, beq_self_eq_true, bne_self_eq_false, Bool.or_self, Bool.and_self, reduceCtorEq, Option.some.injEq, Bool.decide_eq_true, decide_eq_true_eq]
              exact ⟨s.trans s2, i + 1, m, _, rfl, by omega, by rw [eo, oa, cs, decide_eq_true (by omega)]; rfl, rfl⟩
    · rintro ρ S1 ⟨s, j, n, x1, er, en, eo, rfl⟩
      have := range_nil er
      subst this
      refine ⟨rfl, ?_⟩
      try simp only [↓W_sortSet, ↓W_slT, ↓W_var, ↓W_C, ↓W_bin, ↓W_un, ↓W_chain, ↓W_tru, ↓W_tst, ↓W_notT, ↓W_andT, ↓W_orT, ↓W_andV, ↓W_orV, ↓W_notV, ↓W_if, ↓W_nil, ↓W_cons, ↓W_tup, ↓W_lst, ↓W_call, ↓W_callK, ↓W_noPart, ↓W_part, ↓W_sl, ↓W_meth, ↓W_asg, ↓W_name, ↓W_gnil, ↓W_gcons, ↓W_gseq, ↓W_gsub, ↓W_expr, ↓W_ret, ↓W_retN, ↓W_sif, ↓W_next, ↓W_brk, ↓W_cont, ↓W_sbad, ↓W_seq, ↓W_par2, ↓W_par3, ↓W_for, ↓W_lc, ↓W_yes, ↓W_iseq, ↓W_ienum, ↓W_rng1, ↓W_rng2, ↓W_while, ↓W_fun, ↓W_subD, ↓W_addI, ↓W_addS, ↓W_addT, ↓W_mulI, ↓W_fdiv, ↓W_mod, ↓W_neg, ↓W_ord, ↓W_isi, ↓W_is, ↓W_isnt, ↓W_lenT, ↓W_lenN, ↓W_intI, ↓W_intB, ↓W_abs, ↓W_max2, ↓W_min2, ↓W_divmod, ↓W_tupleT, ↓W_tupleN, ↓W_listT, ↓W_eqI, ↓W_neI, ↓W_eqB, ↓W_neB, ↓W_ix0, ↓W_ix1, ↓W_ix2, ↓its_new, ↓its_tup, ↓lst_new, En.pick, List.filterMap_cons, List.filterMap_nil, tyN, tyM, isT, truD, En.isNon, startE, wipeE, List.map_cons, List.map_nil, List.length_cons, List.length_nil, List.cons_append, List.nil_append, List.replicate_succ, List.replicate_zero, List.getElem?_cons_succ, List.getElem?_cons_zero, List.set_cons_succ, List.set_cons_zero, Nat.reduceSub, Nat.reduceAdd, Nat.zero_add, Nat.reduceLeDiff, Nat.sub_self, Bool.not_true, Bool.not_false, Bool.true_and, Bool.and_true, Bool.false_and, Bool.and_false, Bool.or_true, Bool.true_or, Bool.false_or, Bool.or_false, Bool.false_eq_true, if_true, if_false, ite_true, ite_false, true_and, and_true, decide_true, decide_false, String.reduceBEq, beq_self_eq_true, bne_self_eq_false, Bool.or_self, Bool.and_self, reduceCtorEq, Option.some.injEq, Bool.decide_eq_true, decide_eq_true_eq]
      exact k _ _ s fun S Q => by rw [rt_self, rowOk, hne', eo]; rfl
def drop1 (l : List Int) (k : Nat) : List Int := l.take k ++ l.drop (k + 1)
def needless (l : List Int) : List Nat := (List.range' 1 (l.length - 2)).filter fun k => rowOk (drop1 l k)
theorem rng2 {j : Int} {n : Nat} (h : j = (n : Int) - 1) : rngD 1 (j - 1).toNat = (List.range' 1 (n - 2)).map fun (i : Nat) => D.int (i : Int) := by
  subst h
  unfold rngD
  rw [List.range'_eq_map_range, List.map_map, show ((n : Int) - 1 - 1).toNat = n - 2 from by omega]
  refine List.map_congr_left fun i _ => ?_
  simp
theorem drop1_len {l : List Int} {k : Nat} (h : k < l.length) : (drop1 l k).length = l.length - 1 := by
  unfold drop1; rw [List.length_append, List.length_take, List.length_drop]; omega
theorem cut_tup {l : List Int} {k : Nat} (h : k < l.length) : D.tup (cutD (l.map D.int) none (some (k : Int)) ++ cutD (l.map D.int) (some ((k : Int) + 1)) none) = tupI (drop1 l k) := by
  rw [cut_take (by rw [List.length_map]; omega), show ((k : Int) + 1) = ((k + 1 : Nat) : Int) from by omega, cut_drop (by rw [List.length_map]; omega)]
  unfold tupI drop1
  rw [List.map_append, List.map_take, List.map_drop]
theorem ok_nats {n : Nat} {xs : List Nat} (h : xs.length ≤ 1000000) (hn : 2 ≤ n) : okD n (.tup (xs.map natD)) := ok_mono (n := 2) ⟨by simpa using h, fun x hx => by
  obtain ⟨i, _, rfl⟩ := List.mem_map.mp hx
  trivial⟩ hn
theorem nee_len {l : List Int} : (needless l).length ≤ l.length := by
  unfold needless
  exact Nat.le_trans (List.length_filter_le _ _) (by rw [List.length_range']; omega)
theorem nee_mem {l : List Int} {k : Nat} (h : k ∈ needless l) : 1 ≤ k ∧ k + 1 < l.length ∧ rowOk (drop1 l k) = true := by
  unfold needless at h
  obtain ⟨h1, h2⟩ := List.mem_filter.mp h
  have := List.mem_range'_1.mp h1
  exact ⟨by omega, by omega, h2⟩
theorem cut_len' {ds : List D} {lo hi : Option Int} : (cutD ds lo hi).length ≤ ds.length := by
  unfold cutD; rw [List.length_take, List.length_drop]; omega
theorem law_needless_pu {l : List Int} (hl : l.length ≤ 900) (h1 : 1 ≤ l.length) : Pu m__law_needless [tupI l] (.tup ((needless l).map natD)) := fun S => by
  simp only [m__law_needless, tupI, ↓W_sortSet, ↓W_slT, ↓W_var, ↓W_C, ↓W_bin, ↓W_un, ↓W_chain, ↓W_tru, ↓W_tst, ↓W_notT, ↓W_andT, ↓W_orT, ↓W_andV, ↓W_orV, ↓W_notV, ↓W_if, ↓W_nil, ↓W_cons, ↓W_tup, ↓W_lst, ↓W_call, ↓W_callK, ↓W_noPart, ↓W_part, ↓W_sl, ↓W_meth, ↓W_asg, ↓W_name, ↓W_gnil, ↓W_gcons, ↓W_gseq, ↓W_gsub, ↓W_expr, ↓W_ret, ↓W_retN, ↓W_sif, ↓W_next, ↓W_brk, ↓W_cont, ↓W_sbad, ↓W_seq, ↓W_par2, ↓W_par3, ↓W_for, ↓W_lc, ↓W_yes, ↓W_iseq, ↓W_ienum, ↓W_rng1, ↓W_rng2, ↓W_while, ↓W_fun, ↓W_subD, ↓W_addI, ↓W_addS, ↓W_addT, ↓W_mulI, ↓W_fdiv, ↓W_mod, ↓W_neg, ↓W_ord, ↓W_isi, ↓W_is, ↓W_isnt, ↓W_lenT, ↓W_lenN, ↓W_intI, ↓W_intB, ↓W_abs, ↓W_max2, ↓W_min2, ↓W_divmod, ↓W_tupleT, ↓W_tupleN, ↓W_listT, ↓W_eqI, ↓W_neI, ↓W_eqB, ↓W_neB, ↓W_ix0, ↓W_ix1, ↓W_ix2, ↓its_new, ↓its_tup, ↓lst_new, En.pick, List.filterMap_cons, List.filterMap_nil, tyN, tyM, isT, truD, En.isNon, startE, wipeE, List.map_cons, List.map_nil, List.length_cons, List.length_nil, List.cons_append, List.nil_append, List.replicate_succ, List.replicate_zero, List.getElem?_cons_succ, List.getElem?_cons_zero, List.set_cons_succ, List.set_cons_zero, Nat.reduceSub, Nat.reduceAdd, Nat.zero_add, Nat.reduceLeDiff, Nat.sub_self, Bool.not_true, Bool.not_false, Bool.true_and, Bool.and_true, Bool.false_and, Bool.and_false, Bool.or_true, Bool.true_or, Bool.false_or, Bool.or_false, Bool.false_eq_true, if_true, if_false, ite_true, ite_false, true_and, and_true, decide_true, decide_false, String.reduceBEq, beq_self_eq_true, bne_self_eq_false, Bool.or_self, Bool.and_self, reduceCtorEq, Option.some.injEq, Bool.decide_eq_true, decide_eq_true_eq, List.length_map]
  refine ⟨by omega, ?_⟩
  rw [rng2 (n := l.length) rfl]
  refine W_lcP (c := fun i : Nat => D.int (i : Int)) (p := fun k => rowOk (drop1 l k)) (v := natD) rfl (fun i hi S1 s => ?_) fun S1 s => ?_
  · have hi := List.mem_range'_1.mp hi
    have hil : i < l.length := by omega
    try simp only [↓W_sortSet, ↓W_slT, ↓W_var, ↓W_C, ↓W_bin, ↓W_un, ↓W_chain, ↓W_tru, ↓W_tst, ↓W_notT, ↓W_andT, ↓W_orT, ↓W_andV, ↓W_orV, ↓W_notV, ↓W_if, ↓W_nil, ↓W_cons, ↓W_tup, ↓W_lst, ↓W_call, ↓W_callK, ↓W_noPart, ↓W_part, ↓W_sl, ↓W_meth, ↓W_asg, ↓W_name, ↓W_gnil, ↓W_gcons, ↓W_gseq, ↓W_gsub, ↓W_expr, ↓W_ret, ↓W_retN, ↓W_sif, ↓W_next, ↓W_brk, ↓W_cont, ↓W_sbad, ↓W_seq, ↓W_par2, ↓W_par3, ↓W_for, ↓W_lc, ↓W_yes, ↓W_iseq, ↓W_ienum, ↓W_rng1, ↓W_rng2, ↓W_while, ↓W_fun, ↓W_subD, ↓W_addI, ↓W_addS, ↓W_addT, ↓W_mulI, ↓W_fdiv, ↓W_mod, ↓W_neg, ↓W_ord, ↓W_isi, ↓W_is, ↓W_isnt, ↓W_lenT, ↓W_lenN, ↓W_intI, ↓W_intB, ↓W_abs, ↓W_max2, ↓W_min2, ↓W_divmod, ↓W_tupleT, ↓W_tupleN, ↓W_listT, ↓W_eqI, ↓W_neI, ↓W_eqB, ↓W_neB, ↓W_ix0, ↓W_ix1, ↓W_ix2, ↓its_new, ↓its_tup, ↓lst_new, En.pick, List.filterMap_cons, List.filterMap_nil, tyN, tyM, isT, truD, En.isNon, startE, wipeE, List.map_cons, List.map_nil, List.length_cons, List.length_nil, List.cons_append, List.nil_append, List.replicate_succ, List.replicate_zero, List.getElem?_cons_succ, List.getElem?_cons_zero, List.set_cons_succ, List.set_cons_zero, Nat.reduceSub, Nat.reduceAdd, Nat.zero_add, Nat.reduceLeDiff, Nat.sub_self, Bool.not_true, Bool.not_false, Bool.true_and, Bool.and_true, Bool.false_and, Bool.and_false, Bool.or_true, Bool.true_or, Bool.false_or, Bool.or_false, Bool.false_eq_true, if_true, if_false, ite_true, ite_false, true_and, and_true, decide_true, decide_false, String.reduceBEq, beq_self_eq_true, bne_self_eq_false, Bool.or_self, Bool.and_self, reduceCtorEq, Option.some.injEq, Bool.decide_eq_true, decide_eq_true_eq]
    refine ⟨le_lim (by have := @cut_len' (l.map D.int) none (some (i : Int)); have := @cut_len' (l.map D.int) (some ((i : Int) + 1)) none; rw [List.length_map] at *; omega), ?_⟩
    rw [cut_tup hil]
    refine law_wrong_spec (by rw [drop1_len hil]; omega) fun d S2 s2 hd => ?_
    rw [hd]
    try simp only [↓W_sortSet, ↓W_slT, ↓W_var, ↓W_C, ↓W_bin, ↓W_un, ↓W_chain, ↓W_tru, ↓W_tst, ↓W_notT, ↓W_andT, ↓W_orT, ↓W_andV, ↓W_orV, ↓W_notV, ↓W_if, ↓W_nil, ↓W_cons, ↓W_tup, ↓W_lst, ↓W_call, ↓W_callK, ↓W_noPart, ↓W_part, ↓W_sl, ↓W_meth, ↓W_asg, ↓W_name, ↓W_gnil, ↓W_gcons, ↓W_gseq, ↓W_gsub, ↓W_expr, ↓W_ret, ↓W_retN, ↓W_sif, ↓W_next, ↓W_brk, ↓W_cont, ↓W_sbad, ↓W_seq, ↓W_par2, ↓W_par3, ↓W_for, ↓W_lc, ↓W_yes, ↓W_iseq, ↓W_ienum, ↓W_rng1, ↓W_rng2, ↓W_while, ↓W_fun, ↓W_subD, ↓W_addI, ↓W_addS, ↓W_addT, ↓W_mulI, ↓W_fdiv, ↓W_mod, ↓W_neg, ↓W_ord, ↓W_isi, ↓W_is, ↓W_isnt, ↓W_lenT, ↓W_lenN, ↓W_intI, ↓W_intB, ↓W_abs, ↓W_max2, ↓W_min2, ↓W_divmod, ↓W_tupleT, ↓W_tupleN, ↓W_listT, ↓W_eqI, ↓W_neI, ↓W_eqB, ↓W_neB, ↓W_ix0, ↓W_ix1, ↓W_ix2, ↓its_new, ↓its_tup, ↓lst_new, En.pick, List.filterMap_cons, List.filterMap_nil, tyN, tyM, isT, truD, En.isNon, startE, wipeE, List.map_cons, List.map_nil, List.length_cons, List.length_nil, List.cons_append, List.nil_append, List.replicate_succ, List.replicate_zero, List.getElem?_cons_succ, List.getElem?_cons_zero, List.set_cons_succ, List.set_cons_zero, Nat.reduceSub, Nat.reduceAdd, Nat.zero_add, Nat.reduceLeDiff, Nat.sub_self, Bool.not_true, Bool.not_false, Bool.true_and, Bool.and_true, Bool.false_and, Bool.and_false, Bool.or_true, Bool.true_or, Bool.false_or, Bool.or_false, Bool.false_eq_true, if_true, if_false, ite_true, ite_false, true_and, and_true, decide_true, decide_false, String.reduceBEq, beq_self_eq_true, bne_self_eq_false, Bool.or_self, Bool.and_self, reduceCtorEq, Option.some.injEq, Bool.decide_eq_true, decide_eq_true_eq]
    cases rowOk (drop1 l i) with
    | false => simp only [↓W_sortSet, ↓W_slT, ↓W_var, ↓W_C, ↓W_bin, ↓W_un, ↓W_chain, ↓W_tru, ↓W_tst, ↓W_notT, ↓W_andT, ↓W_orT, ↓W_andV, ↓W_orV, ↓W_notV, ↓W_if, ↓W_nil, ↓W_cons, ↓W_tup, ↓W_lst, ↓W_call, ↓W_callK, ↓W_noPart, ↓W_part, ↓W_sl, ↓W_meth, ↓W_asg, ↓W_name, ↓W_gnil, ↓W_gcons, ↓W_gseq, ↓W_gsub, ↓W_expr, ↓W_ret, ↓W_retN, ↓W_sif, ↓W_next, ↓W_brk, ↓W_cont, ↓W_sbad, ↓W_seq, ↓W_par2, ↓W_par3, ↓W_for, ↓W_lc, ↓W_yes, ↓W_iseq, ↓W_ienum, ↓W_rng1, ↓W_rng2, ↓W_while, ↓W_fun, ↓W_subD, ↓W_addI, ↓W_addS, ↓W_addT, ↓W_mulI, ↓W_fdiv, ↓W_mod, ↓W_neg, ↓W_ord, ↓W_isi, ↓W_is, ↓W_isnt, ↓W_lenT, ↓W_lenN, ↓W_intI, ↓W_intB, ↓W_abs, ↓W_max2, ↓W_min2, ↓W_divmod, ↓W_tupleT, ↓W_tupleN, ↓W_listT, ↓W_eqI, ↓W_neI, ↓W_eqB, ↓W_neB, ↓W_ix0, ↓W_ix1, ↓W_ix2, ↓its_new, ↓its_tup, ↓lst_new, En.pick, List.filterMap_cons, List.filterMap_nil, tyN, tyM, isT, truD, En.isNon, startE, wipeE, List.map_cons, List.map_nil, List.length_cons, List.length_nil, List.cons_append, List.nil_append, List.replicate_succ, List.replicate_zero, List.getElem?_cons_succ, List.getElem?_cons_zero, List.set_cons_succ, List.set_cons_zero, Nat.reduceSub, Nat.reduceAdd, Nat.zero_add, Nat.reduceLeDiff, Nat.sub_self, Bool.not_true, Bool.not_false, Bool.true_and, Bool.and_true, Bool.false_and, Bool.and_false, Bool.or_true, Bool.true_or, Bool.false_or, Bool.or_false, Bool.false_eq_true, if_true, if_false, ite_true, ite_false, true_and, and_true, decide_true, decide_false, String.reduceBEq, beq_self_eq_true, bne_self_eq_false, Bool.or_self, Bool.and_self, reduceCtorEq, Option.some.injEq, Bool.decide_eq_true, decide_eq_true_eq]; exact s2
    | true => simp only [↓W_sortSet, ↓W_slT, ↓W_var, ↓W_C, ↓W_bin, ↓W_un, ↓W_chain, ↓W_tru, ↓W_tst, ↓W_notT, ↓W_andT, ↓W_orT, ↓W_andV, ↓W_orV, ↓W_notV, ↓W_if, ↓W_nil, ↓W_cons, ↓W_tup, ↓W_lst, ↓W_call, ↓W_callK, ↓W_noPart, ↓W_part, ↓W_sl, ↓W_meth, ↓W_asg, ↓W_name, ↓W_gnil, ↓W_gcons, ↓W_gseq, ↓W_gsub, ↓W_expr, ↓W_ret, ↓W_retN, ↓W_sif, ↓W_next, ↓W_brk, ↓W_cont, ↓W_sbad, ↓W_seq, ↓W_par2, ↓W_par3, ↓W_for, ↓W_lc, ↓W_yes, ↓W_iseq, ↓W_ienum, ↓W_rng1, ↓W_rng2, ↓W_while, ↓W_fun, ↓W_subD, ↓W_addI, ↓W_addS, ↓W_addT, ↓W_mulI, ↓W_fdiv, ↓W_mod, ↓W_neg, ↓W_ord, ↓W_isi, ↓W_is, ↓W_isnt, ↓W_lenT, ↓W_lenN, ↓W_intI, ↓W_intB, ↓W_abs, ↓W_max2, ↓W_min2, ↓W_divmod, ↓W_tupleT, ↓W_tupleN, ↓W_listT, ↓W_eqI, ↓W_neI, ↓W_eqB, ↓W_neB, ↓W_ix0, ↓W_ix1, ↓W_ix2, ↓its_new, ↓its_tup, ↓lst_new, En.pick, List.filterMap_cons, List.filterMap_nil, tyN, tyM, isT, truD, En.isNon, startE, wipeE, List.map_cons, List.map_nil, List.length_cons, List.length_nil, List.cons_append, List.nil_append, List.replicate_succ, List.replicate_zero, List.getElem?_cons_succ, List.getElem?_cons_zero, List.set_cons_succ, List.set_cons_zero, Nat.reduceSub, Nat.reduceAdd, Nat.zero_add, Nat.reduceLeDiff, Nat.sub_self, Bool.not_true, Bool.not_false, Bool.true_and, Bool.and_true, Bool.false_and, Bool.and_false, Bool.or_true, Bool.true_or, Bool.false_or, Bool.or_false, Bool.false_eq_true, if_true, if_false, ite_true, ite_false, true_and, and_true, decide_true, decide_false, String.reduceBEq, beq_self_eq_true, bne_self_eq_false, Bool.or_self, Bool.and_self, reduceCtorEq, Option.some.injEq, Bool.decide_eq_true, decide_eq_true_eq]; exact s2
  · refine ⟨le_lim ?_, ?_⟩
    · rw [List.length_map]; have := @nee_len l; unfold needless at this; omega
    · try simp only [↓W_sortSet, ↓W_slT, ↓W_var, ↓W_C, ↓W_bin, ↓W_un, ↓W_chain, ↓W_tru, ↓W_tst, ↓W_notT, ↓W_andT, ↓W_orT, ↓W_andV, ↓W_orV, ↓W_notV, ↓W_if, ↓W_nil, ↓W_cons, ↓W_tup, ↓W_lst, ↓W_call, ↓W_callK, ↓W_noPart, ↓W_part, ↓W_sl, ↓W_meth, ↓W_asg, ↓W_name, ↓W_gnil, ↓W_gcons, ↓W_gseq, ↓W_gsub, ↓W_expr, ↓W_ret, ↓W_retN, ↓W_sif, ↓W_next, ↓W_brk, ↓W_cont, ↓W_sbad, ↓W_seq, ↓W_par2, ↓W_par3, ↓W_for, ↓W_lc, ↓W_yes, ↓W_iseq, ↓W_ienum, ↓W_rng1, ↓W_rng2, ↓W_while, ↓W_fun, ↓W_subD, ↓W_addI, ↓W_addS, ↓W_addT, ↓W_mulI, ↓W_fdiv, ↓W_mod, ↓W_neg, ↓W_ord, ↓W_isi, ↓W_is, ↓W_isnt, ↓W_lenT, ↓W_lenN, ↓W_intI, ↓W_intB, ↓W_abs, ↓W_max2, ↓W_min2, ↓W_divmod, ↓W_tupleT, ↓W_tupleN, ↓W_listT, ↓W_eqI, ↓W_neI, ↓W_eqB, ↓W_neB, ↓W_ix0, ↓W_ix1, ↓W_ix2, ↓its_new, ↓its_tup, ↓lst_new, En.pick, List.filterMap_cons, List.filterMap_nil, tyN, tyM, isT, truD, En.isNon, startE, wipeE, List.map_cons, List.map_nil, List.length_cons, List.length_nil, List.cons_append, List.nil_append, List.replicate_succ, List.replicate_zero, List.getElem?_cons_succ, List.getElem?_cons_zero, List.set_cons_succ, List.set_cons_zero, Nat.reduceSub, Nat.reduceAdd, Nat.zero_add, Nat.reduceLeDiff, Nat.sub_self, Bool.not_true, Bool.not_false, Bool.true_and, Bool.and_true, Bool.false_and, Bool.and_false, Bool.or_true, Bool.true_or, Bool.false_or, Bool.or_false, Bool.false_eq_true, if_true, if_false, ite_true, ite_false, true_and, and_true, decide_true, decide_false, String.reduceBEq, beq_self_eq_true, bne_self_eq_false, Bool.or_self, Bool.and_self, reduceCtorEq, Option.some.injEq, Bool.decide_eq_true, decide_eq_true_eq]
      exact ⟨rfl, s.new⟩
theorem without_pu {l : List Int} {k : Nat} (hl : l.length ≤ 900) (h : k < l.length) : Pu m_without [tupI l, .int (k : Int)] (tupI (drop1 l k)) := fun S => by
  simp only [m_without, ↓W_sortSet, ↓W_slT, ↓W_var, ↓W_C, ↓W_bin, ↓W_un, ↓W_chain, ↓W_tru, ↓W_tst, ↓W_notT, ↓W_andT, ↓W_orT, ↓W_andV, ↓W_orV, ↓W_notV, ↓W_if, ↓W_nil, ↓W_cons, ↓W_tup, ↓W_lst, ↓W_call, ↓W_callK, ↓W_noPart, ↓W_part, ↓W_sl, ↓W_meth, ↓W_asg, ↓W_name, ↓W_gnil, ↓W_gcons, ↓W_gseq, ↓W_gsub, ↓W_expr, ↓W_ret, ↓W_retN, ↓W_sif, ↓W_next, ↓W_brk, ↓W_cont, ↓W_sbad, ↓W_seq, ↓W_par2, ↓W_par3, ↓W_for, ↓W_lc, ↓W_yes, ↓W_iseq, ↓W_ienum, ↓W_rng1, ↓W_rng2, ↓W_while, ↓W_fun, ↓W_subD, ↓W_addI, ↓W_addS, ↓W_addT, ↓W_mulI, ↓W_fdiv, ↓W_mod, ↓W_neg, ↓W_ord, ↓W_isi, ↓W_is, ↓W_isnt, ↓W_lenT, ↓W_lenN, ↓W_intI, ↓W_intB, ↓W_abs, ↓W_max2, ↓W_min2, ↓W_divmod, ↓W_tupleT, ↓W_tupleN, ↓W_listT, ↓W_eqI, ↓W_neI, ↓W_eqB, ↓W_neB, ↓W_ix0, ↓W_ix1, ↓W_ix2, ↓its_new, ↓its_tup, ↓lst_new, En.pick, List.filterMap_cons, List.filterMap_nil, tyN, tyM, isT, truD, En.isNon, startE, wipeE, List.map_cons, List.map_nil, List.length_cons, List.length_nil, List.cons_append, List.nil_append, List.replicate_succ, List.replicate_zero, List.getElem?_cons_succ, List.getElem?_cons_zero, List.set_cons_succ, List.set_cons_zero, Nat.reduceSub, Nat.reduceAdd, Nat.zero_add, Nat.reduceLeDiff, Nat.sub_self, Bool.not_true, Bool.not_false, Bool.true_and, Bool.and_true, Bool.false_and, Bool.and_false, Bool.or_true, Bool.true_or, Bool.false_or, Bool.or_false, Bool.false_eq_true, if_true, if_false, ite_true, ite_false, true_and, and_true, decide_true, decide_false, String.reduceBEq, beq_self_eq_true, bne_self_eq_false, Bool.or_self, Bool.and_self, reduceCtorEq, Option.some.injEq, Bool.decide_eq_true, decide_eq_true_eq]
  simp only [tupI, ↓W_sortSet, ↓W_slT, ↓W_var, ↓W_C, ↓W_bin, ↓W_un, ↓W_chain, ↓W_tru, ↓W_tst, ↓W_notT, ↓W_andT, ↓W_orT, ↓W_andV, ↓W_orV, ↓W_notV, ↓W_if, ↓W_nil, ↓W_cons, ↓W_tup, ↓W_lst, ↓W_call, ↓W_callK, ↓W_noPart, ↓W_part, ↓W_sl, ↓W_meth, ↓W_asg, ↓W_name, ↓W_gnil, ↓W_gcons, ↓W_gseq, ↓W_gsub, ↓W_expr, ↓W_ret, ↓W_retN, ↓W_sif, ↓W_next, ↓W_brk, ↓W_cont, ↓W_sbad, ↓W_seq, ↓W_par2, ↓W_par3, ↓W_for, ↓W_lc, ↓W_yes, ↓W_iseq, ↓W_ienum, ↓W_rng1, ↓W_rng2, ↓W_while, ↓W_fun, ↓W_subD, ↓W_addI, ↓W_addS, ↓W_addT, ↓W_mulI, ↓W_fdiv, ↓W_mod, ↓W_neg, ↓W_ord, ↓W_isi, ↓W_is, ↓W_isnt, ↓W_lenT, ↓W_lenN, ↓W_intI, ↓W_intB, ↓W_abs, ↓W_max2, ↓W_min2, ↓W_divmod, ↓W_tupleT, ↓W_tupleN, ↓W_listT, ↓W_eqI, ↓W_neI, ↓W_eqB, ↓W_neB, ↓W_ix0, ↓W_ix1, ↓W_ix2, ↓its_new, ↓its_tup, ↓lst_new, En.pick, List.filterMap_cons, List.filterMap_nil, tyN, tyM, isT, truD, En.isNon, startE, wipeE, List.map_cons, List.map_nil, List.length_cons, List.length_nil, List.cons_append, List.nil_append, List.replicate_succ, List.replicate_zero, List.getElem?_cons_succ, List.getElem?_cons_zero, List.set_cons_succ, List.set_cons_zero, Nat.reduceSub, Nat.reduceAdd, Nat.zero_add, Nat.reduceLeDiff, Nat.sub_self, Bool.not_true, Bool.not_false, Bool.true_and, Bool.and_true, Bool.false_and, Bool.and_false, Bool.or_true, Bool.true_or, Bool.false_or, Bool.or_false, Bool.false_eq_true, if_true, if_false, ite_true, ite_false, true_and, and_true, decide_true, decide_false, String.reduceBEq, beq_self_eq_true, bne_self_eq_false, Bool.or_self, Bool.and_self, reduceCtorEq, Option.some.injEq, Bool.decide_eq_true, decide_eq_true_eq]
  refine ⟨le_lim (by have := @cut_len' (l.map D.int) none (some (k : Int)); have := @cut_len' (l.map D.int) (some ((k : Int) + 1)) none; rw [List.length_map] at *; omega), ?_⟩
  rw [cut_tup h]
  exact ⟨rfl, Sub.refl⟩
theorem needless_in_spec {l : List Int} {S : Sto} {Q : D → Sto → Prop} (hl : l.length ≤ 900) (h1 : 1 ≤ l.length) (k : ∀ b S', Sub S S' → S'[b]? = some (.lst ((needless l).map natD)) → Q (.loc b) S') : W (m_needless_in [tupI l] S) Q := by
  simp only [m_needless_in, ↓W_sortSet, ↓W_slT, ↓W_var, ↓W_C, ↓W_bin, ↓W_un, ↓W_chain, ↓W_tru, ↓W_tst, ↓W_notT, ↓W_andT, ↓W_orT, ↓W_andV, ↓W_orV, ↓W_notV, ↓W_if, ↓W_nil, ↓W_cons, ↓W_tup, ↓W_lst, ↓W_call, ↓W_callK, ↓W_noPart, ↓W_part, ↓W_sl, ↓W_meth, ↓W_asg, ↓W_name, ↓W_gnil, ↓W_gcons, ↓W_gseq, ↓W_gsub, ↓W_expr, ↓W_ret, ↓W_retN, ↓W_sif, ↓W_next, ↓W_brk, ↓W_cont, ↓W_sbad, ↓W_seq, ↓W_par2, ↓W_par3, ↓W_for, ↓W_lc, ↓W_yes, ↓W_iseq, ↓W_ienum, ↓W_rng1, ↓W_rng2, ↓W_while, ↓W_fun, ↓W_subD, ↓W_addI, ↓W_addS, ↓W_addT, ↓W_mulI, ↓W_fdiv, ↓W_mod, ↓W_neg, ↓W_ord, ↓W_isi, ↓W_is, ↓W_isnt, ↓W_lenT, ↓W_lenN, ↓W_intI, ↓W_intB, ↓W_abs, ↓W_max2, ↓W_min2, ↓W_divmod, ↓W_tupleT, ↓W_tupleN, ↓W_listT, ↓W_eqI, ↓W_neI, ↓W_eqB, ↓W_neB, ↓W_ix0, ↓W_ix1, ↓W_ix2, ↓its_new, ↓its_tup, ↓lst_new, En.pick, List.filterMap_cons, List.filterMap_nil, tyN, tyM, isT, truD, En.isNon, startE, wipeE, List.map_cons, List.map_nil, List.length_cons, List.length_nil, List.cons_append, List.nil_append, List.replicate_succ, List.replicate_zero, List.getElem?_cons_succ, List.getElem?_cons_zero, List.set_cons_succ, List.set_cons_zero, Nat.reduceSub, Nat.reduceAdd, Nat.zero_add, Nat.reduceLeDiff, Nat.sub_self, Bool.not_true, Bool.not_false, Bool.true_and, Bool.and_true, Bool.false_and, Bool.and_false, Bool.or_true, Bool.true_or, Bool.false_or, Bool.or_false, Bool.false_eq_true, if_true, if_false, ite_true, ite_false, true_and, and_true, decide_true, decide_false, String.reduceBEq, beq_self_eq_true, bne_self_eq_false, Bool.or_self, Bool.and_self, reduceCtorEq, Option.some.injEq, Bool.decide_eq_true, decide_eq_true_eq]
  simp only [tupI, ↓W_sortSet, ↓W_slT, ↓W_var, ↓W_C, ↓W_bin, ↓W_un, ↓W_chain, ↓W_tru, ↓W_tst, ↓W_notT, ↓W_andT, ↓W_orT, ↓W_andV, ↓W_orV, ↓W_notV, ↓W_if, ↓W_nil, ↓W_cons, ↓W_tup, ↓W_lst, ↓W_call, ↓W_callK, ↓W_noPart, ↓W_part, ↓W_sl, ↓W_meth, ↓W_asg, ↓W_name, ↓W_gnil, ↓W_gcons, ↓W_gseq, ↓W_gsub, ↓W_expr, ↓W_ret, ↓W_retN, ↓W_sif, ↓W_next, ↓W_brk, ↓W_cont, ↓W_sbad, ↓W_seq, ↓W_par2, ↓W_par3, ↓W_for, ↓W_lc, ↓W_yes, ↓W_iseq, ↓W_ienum, ↓W_rng1, ↓W_rng2, ↓W_while, ↓W_fun, ↓W_subD, ↓W_addI, ↓W_addS, ↓W_addT, ↓W_mulI, ↓W_fdiv, ↓W_mod, ↓W_neg, ↓W_ord, ↓W_isi, ↓W_is, ↓W_isnt, ↓W_lenT, ↓W_lenN, ↓W_intI, ↓W_intB, ↓W_abs, ↓W_max2, ↓W_min2, ↓W_divmod, ↓W_tupleT, ↓W_tupleN, ↓W_listT, ↓W_eqI, ↓W_neI, ↓W_eqB, ↓W_neB, ↓W_ix0, ↓W_ix1, ↓W_ix2, ↓its_new, ↓its_tup, ↓lst_new, En.pick, List.filterMap_cons, List.filterMap_nil, tyN, tyM, isT, truD, En.isNon, startE, wipeE, List.map_cons, List.map_nil, List.length_cons, List.length_nil, List.cons_append, List.nil_append, List.replicate_succ, List.replicate_zero, List.getElem?_cons_succ, List.getElem?_cons_zero, List.set_cons_succ, List.set_cons_zero, Nat.reduceSub, Nat.reduceAdd, Nat.zero_add, Nat.reduceLeDiff, Nat.sub_self, Bool.not_true, Bool.not_false, Bool.true_and, Bool.and_true, Bool.false_and, Bool.and_false, Bool.or_true, Bool.true_or, Bool.false_or, Bool.or_false, Bool.false_eq_true, if_true, if_false, ite_true, ite_false, true_and, and_true, decide_true, decide_false, String.reduceBEq, beq_self_eq_true, bne_self_eq_false, Bool.or_self, Bool.and_self, reduceCtorEq, Option.some.injEq, Bool.decide_eq_true, decide_eq_true_eq, List.length_map]
  refine ⟨by omega, ?_⟩
  rw [rng2 (n := l.length) rfl]
  refine W_lcP (c := fun i : Nat => D.int (i : Int)) (p := fun k => rowOk (drop1 l k)) (v := natD) rfl (fun i hi S1 s => ?_) fun S1 s => ?_
  · have hi := List.mem_range'_1.mp hi
    have hil : i < l.length := by omega
    try simp only [↓W_sortSet, ↓W_slT, ↓W_var, ↓W_C, ↓W_bin, ↓W_un, ↓W_chain, ↓W_tru, ↓W_tst, ↓W_notT, ↓W_andT, ↓W_orT, ↓W_andV, ↓W_orV, ↓W_notV, ↓W_if, ↓W_nil, ↓W_cons, ↓W_tup, ↓W_lst, ↓W_call, ↓W_callK, ↓W_noPart, ↓W_part, ↓W_sl, ↓W_meth, ↓W_asg, ↓W_name, ↓W_gnil, ↓W_gcons, ↓W_gseq, ↓W_gsub, ↓W_expr, ↓W_ret, ↓W_retN, ↓W_sif, ↓W_next, ↓W_brk, ↓W_cont, ↓W_sbad, ↓W_seq, ↓W_par2, ↓W_par3, ↓W_for, ↓W_lc, ↓W_yes, ↓W_iseq, ↓W_ienum, ↓W_rng1, ↓W_rng2, ↓W_while, ↓W_fun, ↓W_subD, ↓W_addI, ↓W_addS, ↓W_addT, ↓W_mulI, ↓W_fdiv, ↓W_mod, ↓W_neg, ↓W_ord, ↓W_isi, ↓W_is, ↓W_isnt, ↓W_lenT, ↓W_lenN, ↓W_intI, ↓W_intB, ↓W_abs, ↓W_max2, ↓W_min2, ↓W_divmod, ↓W_tupleT, ↓W_tupleN, ↓W_listT, ↓W_eqI, ↓W_neI, ↓W_eqB, ↓W_neB, ↓W_ix0, ↓W_ix1, ↓W_ix2, ↓its_new, ↓its_tup, ↓lst_new, En.pick, List.filterMap_cons, List.filterMap_nil, tyN, tyM, isT, truD, En.isNon, startE, wipeE, List.map_cons, List.map_nil, List.length_cons, List.length_nil, List.cons_append, List.nil_append, List.replicate_succ, List.replicate_zero, List.getElem?_cons_succ, List.getElem?_cons_zero, List.set_cons_succ, List.set_cons_zero, Nat.reduceSub, Nat.reduceAdd, Nat.zero_add, Nat.reduceLeDiff, Nat.sub_self, Bool.not_true, Bool.not_false, Bool.true_and, Bool.and_true, Bool.false_and, Bool.and_false, Bool.or_true, Bool.true_or, Bool.false_or, Bool.or_false, Bool.false_eq_true, if_true, if_false, ite_true, ite_false, true_and, and_true, decide_true, decide_false, String.reduceBEq, beq_self_eq_true, bne_self_eq_false, Bool.or_self, Bool.and_self, reduceCtorEq, Option.some.injEq, Bool.decide_eq_true, decide_eq_true_eq]
    refine (without_pu hl hil).use fun S2 s2 => ?_
    try simp only [↓W_sortSet, ↓W_slT, ↓W_var, ↓W_C, ↓W_bin, ↓W_un, ↓W_chain, ↓W_tru, ↓W_tst, ↓W_notT, ↓W_andT, ↓W_orT, ↓W_andV, ↓W_orV, ↓W_notV, ↓W_if, ↓W_nil, ↓W_cons, ↓W_tup, ↓W_lst, ↓W_call, ↓W_callK, ↓W_noPart, ↓W_part, ↓W_sl, ↓W_meth, ↓W_asg, ↓W_name, ↓W_gnil, ↓W_gcons, ↓W_gseq, ↓W_gsub, ↓W_expr, ↓W_ret, ↓W_retN, ↓W_sif, ↓W_next, ↓W_brk, ↓W_cont, ↓W_sbad, ↓W_seq, ↓W_par2, ↓W_par3, ↓W_for, ↓W_lc, ↓W_yes, ↓W_iseq, ↓W_ienum, ↓W_rng1, ↓W_rng2, ↓W_while, ↓W_fun, ↓W_subD, ↓W_addI, ↓W_addS, ↓W_addT, ↓W_mulI, ↓W_fdiv, ↓W_mod, ↓W_neg, ↓W_ord, ↓W_isi, ↓W_is, ↓W_isnt, ↓W_lenT, ↓W_lenN, ↓W_intI, ↓W_intB, ↓W_abs, ↓W_max2, ↓W_min2, ↓W_divmod, ↓W_tupleT, ↓W_tupleN, ↓W_listT, ↓W_eqI, ↓W_neI, ↓W_eqB, ↓W_neB, ↓W_ix0, ↓W_ix1, ↓W_ix2, ↓its_new, ↓its_tup, ↓lst_new, En.pick, List.filterMap_cons, List.filterMap_nil, tyN, tyM, isT, truD, En.isNon, startE, wipeE, List.map_cons, List.map_nil, List.length_cons, List.length_nil, List.cons_append, List.nil_append, List.replicate_succ, List.replicate_zero, List.getElem?_cons_succ, List.getElem?_cons_zero, List.set_cons_succ, List.set_cons_zero, Nat.reduceSub, Nat.reduceAdd, Nat.zero_add, Nat.reduceLeDiff, Nat.sub_self, Bool.not_true, Bool.not_false, Bool.true_and, Bool.and_true, Bool.false_and, Bool.and_false, Bool.or_true, Bool.true_or, Bool.false_or, Bool.or_false, Bool.false_eq_true, if_true, if_false, ite_true, ite_false, true_and, and_true, decide_true, decide_false, String.reduceBEq, beq_self_eq_true, bne_self_eq_false, Bool.or_self, Bool.and_self, reduceCtorEq, Option.some.injEq, Bool.decide_eq_true, decide_eq_true_eq]
    refine (is_row_value_pu (by rw [drop1_len hil]; omega)).use fun S3 s3 => ?_
    try simp only [↓W_sortSet, ↓W_slT, ↓W_var, ↓W_C, ↓W_bin, ↓W_un, ↓W_chain, ↓W_tru, ↓W_tst, ↓W_notT, ↓W_andT, ↓W_orT, ↓W_andV, ↓W_orV, ↓W_notV, ↓W_if, ↓W_nil, ↓W_cons, ↓W_tup, ↓W_lst, ↓W_call, ↓W_callK, ↓W_noPart, ↓W_part, ↓W_sl, ↓W_meth, ↓W_asg, ↓W_name, ↓W_gnil, ↓W_gcons, ↓W_gseq, ↓W_gsub, ↓W_expr, ↓W_ret, ↓W_retN, ↓W_sif, ↓W_next, ↓W_brk, ↓W_cont, ↓W_sbad, ↓W_seq, ↓W_par2, ↓W_par3, ↓W_for, ↓W_lc, ↓W_yes, ↓W_iseq, ↓W_ienum, ↓W_rng1, ↓W_rng2, ↓W_while, ↓W_fun, ↓W_subD, ↓W_addI, ↓W_addS, ↓W_addT, ↓W_mulI, ↓W_fdiv, ↓W_mod, ↓W_neg, ↓W_ord, ↓W_isi, ↓W_is, ↓W_isnt, ↓W_lenT, ↓W_lenN, ↓W_intI, ↓W_intB, ↓W_abs, ↓W_max2, ↓W_min2, ↓W_divmod, ↓W_tupleT, ↓W_tupleN, ↓W_listT, ↓W_eqI, ↓W_neI, ↓W_eqB, ↓W_neB, ↓W_ix0, ↓W_ix1, ↓W_ix2, ↓its_new, ↓its_tup, ↓lst_new, En.pick, List.filterMap_cons, List.filterMap_nil, tyN, tyM, isT, truD, En.isNon, startE, wipeE, List.map_cons, List.map_nil, List.length_cons, List.length_nil, List.cons_append, List.nil_append, List.replicate_succ, List.replicate_zero, List.getElem?_cons_succ, List.getElem?_cons_zero, List.set_cons_succ, List.set_cons_zero, Nat.reduceSub, Nat.reduceAdd, Nat.zero_add, Nat.reduceLeDiff, Nat.sub_self, Bool.not_true, Bool.not_false, Bool.true_and, Bool.and_true, Bool.false_and, Bool.and_false, Bool.or_true, Bool.true_or, Bool.false_or, Bool.or_false, Bool.false_eq_true, if_true, if_false, ite_true, ite_false, true_and, and_true, decide_true, decide_false, String.reduceBEq, beq_self_eq_true, bne_self_eq_false, Bool.or_self, Bool.and_self, reduceCtorEq, Option.some.injEq, Bool.decide_eq_true, decide_eq_true_eq]
    cases rowOk (drop1 l i) with
    | false => simp only [↓W_sortSet, ↓W_slT, ↓W_var, ↓W_C, ↓W_bin, ↓W_un, ↓W_chain, ↓W_tru, ↓W_tst, ↓W_notT, ↓W_andT, ↓W_orT, ↓W_andV, ↓W_orV, ↓W_notV, ↓W_if, ↓W_nil, ↓W_cons, ↓W_tup, ↓W_lst, ↓W_call, ↓W_callK, ↓W_noPart, ↓W_part, ↓W_sl, ↓W_meth, ↓W_asg, ↓W_name, ↓W_gnil, ↓W_gcons, ↓W_gseq, ↓W_gsub, ↓W_expr, ↓W_ret, ↓W_retN, ↓W_sif, ↓W_next, ↓W_brk, ↓W_cont, ↓W_sbad, ↓W_seq, ↓W_par2, ↓W_par3, ↓W_for, ↓W_lc, ↓W_yes, ↓W_iseq, ↓W_ienum, ↓W_rng1, ↓W_rng2, ↓W_while, ↓W_fun, ↓W_subD, ↓W_addI, ↓W_addS, ↓W_addT, ↓W_mulI, ↓W_fdiv, ↓W_mod, ↓W_neg, ↓W_ord, ↓W_isi, ↓W_is, ↓W_isnt, ↓W_lenT, ↓W_lenN, ↓W_intI, ↓W_intB, ↓W_abs, ↓W_max2, ↓W_min2, ↓W_divmod, ↓W_tupleT, ↓W_tupleN, ↓W_listT, ↓W_eqI, ↓W_neI, ↓W_eqB, ↓W_neB, ↓W_ix0, ↓W_ix1, ↓W_ix2, ↓its_new, ↓its_tup, ↓lst_new, En.pick, List.filterMap_cons, List.filterMap_nil, tyN, tyM, isT, truD, En.isNon, startE, wipeE, List.map_cons, List.map_nil, List.length_cons, List.length_nil, List.cons_append, List.nil_append, List.replicate_succ, List.replicate_zero, List.getElem?_cons_succ, List.getElem?_cons_zero, List.set_cons_succ, List.set_cons_zero, Nat.reduceSub, Nat.reduceAdd, Nat.zero_add, Nat.reduceLeDiff, Nat.sub_self, Bool.not_true, Bool.not_false, Bool.true_and, Bool.and_true, Bool.false_and, Bool.and_false, Bool.or_true, Bool.true_or, Bool.false_or, Bool.or_false, Bool.false_eq_true, if_true, if_false, ite_true, ite_false, true_and, and_true, decide_true, decide_false, String.reduceBEq, beq_self_eq_true, bne_self_eq_false, Bool.or_self, Bool.and_self, reduceCtorEq, Option.some.injEq, Bool.decide_eq_true, decide_eq_true_eq]; exact s2.trans s3
    | true => simp only [↓W_sortSet, ↓W_slT, ↓W_var, ↓W_C, ↓W_bin, ↓W_un, ↓W_chain, ↓W_tru, ↓W_tst, ↓W_notT, ↓W_andT, ↓W_orT, ↓W_andV, ↓W_orV, ↓W_notV, ↓W_if, ↓W_nil, ↓W_cons, ↓W_tup, ↓W_lst, ↓W_call, ↓W_callK, ↓W_noPart, ↓W_part, ↓W_sl, ↓W_meth, ↓W_asg, ↓W_name, ↓W_gnil, ↓W_gcons, ↓W_gseq, ↓W_gsub, ↓W_expr, ↓W_ret, ↓W_retN, ↓W_sif, ↓W_next, ↓W_brk, ↓W_cont, ↓W_sbad, ↓W_seq, ↓W_par2, ↓W_par3, ↓W_for, ↓W_lc, ↓W_yes, ↓W_iseq, ↓W_ienum, ↓W_rng1, ↓W_rng2, ↓W_while, ↓W_fun, ↓W_subD, ↓W_addI, ↓W_addS, ↓W_addT, ↓W_mulI, ↓W_fdiv, ↓W_mod, ↓W_neg, ↓W_ord, ↓W_isi, ↓W_is, ↓W_isnt, ↓W_lenT, ↓W_lenN, ↓W_intI, ↓W_intB, ↓W_abs, ↓W_max2, ↓W_min2, ↓W_divmod, ↓W_tupleT, ↓W_tupleN, ↓W_listT, ↓W_eqI, ↓W_neI, ↓W_eqB, ↓W_neB, ↓W_ix0, ↓W_ix1, ↓W_ix2, ↓its_new, ↓its_tup, ↓lst_new, En.pick, List.filterMap_cons, List.filterMap_nil, tyN, tyM, isT, truD, En.isNon, startE, wipeE, List.map_cons, List.map_nil, List.length_cons, List.length_nil, List.cons_append, List.nil_append, List.replicate_succ, List.replicate_zero, List.getElem?_cons_succ, List.getElem?_cons_zero, List.set_cons_succ, List.set_cons_zero, Nat.reduceSub, Nat.reduceAdd, Nat.zero_add, Nat.reduceLeDiff, Nat.sub_self, Bool.not_true, Bool.not_false, Bool.true_and, Bool.and_true, Bool.false_and, Bool.and_false, Bool.or_true, Bool.true_or, Bool.false_or, Bool.or_false, Bool.false_eq_true, if_true, if_false, ite_true, ite_false, true_and, and_true, decide_true, decide_false, String.reduceBEq, beq_self_eq_true, bne_self_eq_false, Bool.or_self, Bool.and_self, reduceCtorEq, Option.some.injEq, Bool.decide_eq_true, decide_eq_true_eq]; exact s2.trans s3
  · refine ⟨le_lim ?_, k _ _ s.new at_new⟩
    rw [List.length_map]; have := @nee_len l; unfold needless at this; omega
end L_k07
namespace L_k07
open PySem L2 En
def leanN : Nat → List Int → List Int
  | 0, l => l
  | n + 1, l => match needless l with
    | [] => l
    | k :: _ => leanN n (drop1 l k)
theorem leanN_nil {n : Nat} {l : List Int} (h : needless l = []) : leanN n l = l := by
  cases n with
  | zero => rfl
  | succ n => unfold leanN; rw [h]
theorem leanN_cons {n k : Nat} {l : List Int} {r : List Nat} (h : needless l = k :: r) : leanN (n + 1) l = leanN n (drop1 l k) := by
  conv => lhs; unfold leanN
  rw [h]
theorem nee_head {l : List Int} {k : Nat} {r : List Nat} (h : needless l = k :: r) : 1 ≤ k ∧ k + 1 < l.length ∧ rowOk (drop1 l k) = true := nee_mem (by rw [h]; exact List.mem_cons_self ..)
theorem lean_nee : ∀ (n : Nat) (l : List Int), l.length ≤ n → needless (leanN n l) = []
  | 0, l, h => by
    have : l = [] := List.length_eq_zero_iff.mp (by omega)
    subst this; rfl
  | n + 1, l, h => by
    cases hn : needless l with
    | nil => rw [leanN_nil hn]; exact hn
    | cons k r =>
      have hk := nee_head hn
      rw [leanN_cons hn]
      exact lean_nee n _ (by rw [drop1_len (by omega)]; omega)
theorem lean_ok : ∀ (n : Nat) (l : List Int), rowOk l = true → rowOk (leanN n l) = true
  | 0, l, h => h
  | n + 1, l, h => by
    cases hn : needless l with
    | nil => rw [leanN_nil hn]; exact h
    | cons k r => rw [leanN_cons hn]; exact lean_ok n _ (nee_head hn).2.2
theorem drop1_last {l : List Int} {k : Nat} (h : k + 1 < l.length) : (drop1 l k).getLast? = l.getLast? := by
  unfold drop1
  rw [List.getLast?_append]
  have : l.getLast? = (l.drop (k + 1)).getLast? := by
    rw [List.getLast?_drop, if_neg (by omega)]
  rw [this]
  cases e : (l.drop (k + 1)).getLast? with
  | none =>
    rw [List.getLast?_eq_none_iff] at e
    have := congrArg List.length e
    rw [List.length_drop] at this
    simp at this; omega
  | some x => rfl
theorem lean_last : ∀ (n : Nat) (l : List Int), (leanN n l).getLast? = l.getLast?
  | 0, l => rfl
  | n + 1, l => by
    cases hn : needless l with
    | nil => rw [leanN_nil hn]
    | cons k r => rw [leanN_cons hn, lean_last n, drop1_last (nee_head hn).2.1]
theorem lean_len : ∀ (n : Nat) (l : List Int), (leanN n l).length ≤ l.length
  | 0, l => Nat.le_refl _
  | n + 1, l => by
    cases hn : needless l with
    | nil => rw [leanN_nil hn]; exact Nat.le_refl _
    | cons k r =>
      have := nee_head hn
      rw [leanN_cons hn]; exact Nat.le_trans (lean_len n _) (by rw [drop1_len (by omega)]; omega)
theorem lean_pos : ∀ (n : Nat) (l : List Int), 1 ≤ l.length → 1 ≤ (leanN n l).length
  | 0, l, h => h
  | n + 1, l, h => by
    cases hn : needless l with
    | nil => rw [leanN_nil hn]; exact h
    | cons k r =>
      have := nee_head hn
      rw [leanN_cons hn]; exact lean_pos n _ (by rw [drop1_len (by omega)]; omega)
abbrev lean (l : List Int) : List Int := leanN 900 l
theorem law_leaned_loop {Qo : Out → Sto → Prop} {S0 : Sto} : ∀ (n f : Nat) (l : List Int) (x : Option D) (S : Sto), l.length ≤ n → l.length ≤ 900 → 1 ≤ l.length → n < f → Sub S0 S →
    (∀ x' S', Sub S0 S' → Qo (.next [some (tupI (leanN n l)), x']) S') →
    W (whileL (mTst (mBin neD (mCall m__law_needless (mCons (mVar 0) mNil)) (mTup mNil))) (sSeq (sAsg (mBin ixD (mCall m__law_needless (mCons (mVar 0) mNil)) (mC (.int 0))) (gmName 1))
    (sAsg (mBin addD (mSl (mVar 0) mNoPart (mPart (mVar 1))) (mSl (mVar 0) (mPart (mBin addD (mVar 1) (mC (.int 1)))) mNoPart)) (gmName 0))) f [some (tupI l), x] S) Qo
  | n, 0, l, x, S, h1, h2, h3, h4, s, k => absurd h4 (by omega)
  | n, f + 1, l, x, S, h1, h2, h3, h4, s, k => by
    rw [W_whileS]
    try simp only [↓W_sortSet, ↓W_slT, ↓W_var, ↓W_C, ↓W_bin, ↓W_un, ↓W_chain, ↓W_tru, ↓W_tst, ↓W_notT, ↓W_andT, ↓W_orT, ↓W_andV, ↓W_orV, ↓W_notV, ↓W_if, ↓W_nil, ↓W_cons, ↓W_tup, ↓W_lst, ↓W_call, ↓W_callK, ↓W_noPart, ↓W_part, ↓W_sl, ↓W_meth, ↓W_asg, ↓W_name, ↓W_gnil, ↓W_gcons, ↓W_gseq, ↓W_gsub, ↓W_expr, ↓W_ret, ↓W_retN, ↓W_sif, ↓W_next, ↓W_brk, ↓W_cont, ↓W_sbad, ↓W_seq, ↓W_par2, ↓W_par3, ↓W_for, ↓W_lc, ↓W_yes, ↓W_iseq, ↓W_ienum, ↓W_rng1, ↓W_rng2, ↓W_while, ↓W_fun, ↓W_subD, ↓W_addI, ↓W_addS, ↓W_addT, ↓W_mulI, ↓W_fdiv, ↓W_mod, ↓W_neg, ↓W_ord, ↓W_isi, ↓W_is, ↓W_isnt, ↓W_lenT, ↓W_lenN, ↓W_intI, ↓W_intB, ↓W_abs, ↓W_max2, ↓W_min2, ↓W_divmod, ↓W_tupleT, ↓W_tupleN, ↓W_listT, ↓W_eqI, ↓W_neI, ↓W_eqB, ↓W_neB, ↓W_ix0, ↓W_ix1, ↓W_ix2, ↓its_new, ↓its_tup, ↓lst_new, En.pick, List.filterMap_cons, List.filterMap_nil, tyN, tyM, isT, truD, En.isNon, startE, wipeE, List.map_cons, List.map_nil, List.length_cons, List.length_nil, List.cons_append, List.nil_append, List.replicate_succ, List.replicate_zero, List.getElem?_cons_succ, List.getElem?_cons_zero, List.set_cons_succ, List.set_cons_zero, Nat.reduceSub, Nat.reduceAdd, Nat.zero_add, Nat.reduceLeDiff, Nat.sub_self, Bool.not_true, Bool.not_false, Bool.true_and, Bool.and_true, Bool.false_and, Bool.and_false, Bool.or_true, Bool.true_or, Bool.false_or, Bool.or_false, Bool.false_eq_true, if_true, if_false, ite_true, ite_false, true_and, and_true, decide_true, decide_false, String.reduceBEq, beq_self_eq_true, bne_self_eq_false, Bool.or_self, Bool.and_self, reduceCtorEq, Option.some.injEq, Bool.decide_eq_true, decide_eq_true_eq]
    refine (law_needless_pu h2 h3).use fun S1 s1 => ?_
    try simp only [↓W_sortSet, ↓W_slT, ↓W_var, ↓W_C, ↓W_bin, ↓W_un, ↓W_chain, ↓W_tru, ↓W_tst, ↓W_notT, ↓W_andT, ↓W_orT, ↓W_andV, ↓W_orV, ↓W_notV, ↓W_if, ↓W_nil, ↓W_cons, ↓W_tup, ↓W_lst, ↓W_call, ↓W_callK, ↓W_noPart, ↓W_part, ↓W_sl, ↓W_meth, ↓W_asg, ↓W_name, ↓W_gnil, ↓W_gcons, ↓W_gseq, ↓W_gsub, ↓W_expr, ↓W_ret, ↓W_retN, ↓W_sif, ↓W_next, ↓W_brk, ↓W_cont, ↓W_sbad, ↓W_seq, ↓W_par2, ↓W_par3, ↓W_for, ↓W_lc, ↓W_yes, ↓W_iseq, ↓W_ienum, ↓W_rng1, ↓W_rng2, ↓W_while, ↓W_fun, ↓W_subD, ↓W_addI, ↓W_addS, ↓W_addT, ↓W_mulI, ↓W_fdiv, ↓W_mod, ↓W_neg, ↓W_ord, ↓W_isi, ↓W_is, ↓W_isnt, ↓W_lenT, ↓W_lenN, ↓W_intI, ↓W_intB, ↓W_abs, ↓W_max2, ↓W_min2, ↓W_divmod, ↓W_tupleT, ↓W_tupleN, ↓W_listT, ↓W_eqI, ↓W_neI, ↓W_eqB, ↓W_neB, ↓W_ix0, ↓W_ix1, ↓W_ix2, ↓its_new, ↓its_tup, ↓lst_new, En.pick, List.filterMap_cons, List.filterMap_nil, tyN, tyM, isT, truD, En.isNon, startE, wipeE, List.map_cons, List.map_nil, List.length_cons, List.length_nil, List.cons_append, List.nil_append, List.replicate_succ, List.replicate_zero, List.getElem?_cons_succ, List.getElem?_cons_zero, List.set_cons_succ, List.set_cons_zero, Nat.reduceSub, Nat.reduceAdd, Nat.zero_add, Nat.reduceLeDiff, Nat.sub_self, Bool.not_true, Bool.not_false, Bool.true_and, Bool.and_true, Bool.false_and, Bool.and_false, Bool.or_true, Bool.true_or, Bool.false_or, Bool.or_false, Bool.false_eq_true, if_true, if_false, ite_true, ite_false, true_and, and_true, decide_true, decide_false, String.reduceBEq, beq_self_eq_true, bne_self_eq_false, Bool.or_self, Bool.and_self, reduceCtorEq, Option.some.injEq, Bool.decide_eq_true, decide_eq_true_eq]
    refine ⟨Nat.zero_le _, ?_⟩
    have nl := @nee_len l
    rw [W_neNil (ok_nats (n := 5) (by omega) (by decide))]
    cases hn : needless l with
    | nil =>
      simp only [List.map_nil, List.isEmpty_nil, ↓W_sortSet, ↓W_slT, ↓W_var, ↓W_C, ↓W_bin, ↓W_un, ↓W_chain, ↓W_tru, ↓W_tst, ↓W_notT, ↓W_andT, ↓W_orT, ↓W_andV, ↓W_orV, ↓W_notV, ↓W_if, ↓W_nil, ↓W_cons, ↓W_tup, ↓W_lst, ↓W_call, ↓W_callK, ↓W_noPart, ↓W_part, ↓W_sl, ↓W_meth, ↓W_asg, ↓W_name, ↓W_gnil, ↓W_gcons, ↓W_gseq, ↓W_gsub, ↓W_expr, ↓W_ret, ↓W_retN, ↓W_sif, ↓W_next, ↓W_brk, ↓W_cont, ↓W_sbad, ↓W_seq, ↓W_par2, ↓W_par3, ↓W_for, ↓W_lc, ↓W_yes, ↓W_iseq, ↓W_ienum, ↓W_rng1, ↓W_rng2, ↓W_while, ↓W_fun, ↓W_subD, ↓W_addI, ↓W_addS, ↓W_addT, ↓W_mulI, ↓W_fdiv, ↓W_mod, ↓W_neg, ↓W_ord, ↓W_isi, ↓W_is, ↓W_isnt, ↓W_lenT, ↓W_lenN, ↓W_intI, ↓W_intB, ↓W_abs, ↓W_max2, ↓W_min2, ↓W_divmod, ↓W_tupleT, ↓W_tupleN, ↓W_listT, ↓W_eqI, ↓W_neI, ↓W_eqB, ↓W_neB, ↓W_ix0, ↓W_ix1, ↓W_ix2, ↓its_new, ↓its_tup, ↓lst_new, En.pick, List.filterMap_cons, List.filterMap_nil, tyN, tyM, isT, truD, En.isNon, startE, wipeE, List.map_cons, List.map_nil, List.length_cons, List.length_nil, List.cons_append, List.nil_append, List.replicate_succ, List.replicate_zero, List.getElem?_cons_succ, List.getElem?_cons_zero, List.set_cons_succ, List.set_cons_zero, Nat.reduceSub, Nat.reduceAdd, Nat.zero_add, Nat.reduceLeDiff, Nat.sub_self, Bool.not_true, Bool.not_false, Bool.true_and, Bool.and_true, Bool.false_and, Bool.and_false, Bool.or_true, Bool.true_or, Bool.false_or, Bool.or_false, Bool.false_eq_true, if_true, if_false, ite_true, ite_false, true_and, and_true, decide_true, decide_false, String.reduceBEq, beq_self_eq_true, bne_self_eq_false, Bool.or_self, Bool.and_self, reduceCtorEq, Option.some.injEq, Bool.decide_eq_true, decide_eq_true_eq]
      rw [leanN_nil hn] at k
      exact k _ _ (s.trans s1)
    | cons j r =>
      simp only [List.map_cons, List.isEmpty_cons, ↓W_sortSet, ↓W_slT, ↓W_var, ↓W_C, ↓W_bin, ↓W_un, ↓W_chain, ↓W_tru, ↓W_tst, ↓W_notT, ↓W_andT, ↓W_orT, ↓W_andV, ↓W_orV, ↓W_notV, ↓W_if, ↓W_nil, ↓W_cons, ↓W_tup, ↓W_lst, ↓W_call, ↓W_callK, ↓W_noPart, ↓W_part, ↓W_sl, ↓W_meth, ↓W_asg, ↓W_name, ↓W_gnil, ↓W_gcons, ↓W_gseq, ↓W_gsub, ↓W_expr, ↓W_ret, ↓W_retN, ↓W_sif, ↓W_next, ↓W_brk, ↓W_cont, ↓W_sbad, ↓W_seq, ↓W_par2, ↓W_par3, ↓W_for, ↓W_lc, ↓W_yes, ↓W_iseq, ↓W_ienum, ↓W_rng1, ↓W_rng2, ↓W_while, ↓W_fun, ↓W_subD, ↓W_addI, ↓W_addS, ↓W_addT, ↓W_mulI, ↓W_fdiv, ↓W_mod, ↓W_neg, ↓W_ord, ↓W_isi, ↓W_is, ↓W_isnt, ↓W_lenT, ↓W_lenN, ↓W_intI, ↓W_intB, ↓W_abs, ↓W_max2, ↓W_min2, ↓W_divmod, ↓W_tupleT, ↓W_tupleN, ↓W_listT, ↓W_eqI, ↓W_neI, ↓W_eqB, ↓W_neB, ↓W_ix0, ↓W_ix1, ↓W_ix2, ↓its_new, ↓its_tup, ↓lst_new, En.pick, List.filterMap_cons, List.filterMap_nil, tyN, tyM, isT, truD, En.isNon, startE, wipeE, List.map_cons, List.map_nil, List.length_cons, List.length_nil, List.cons_append, List.nil_append, List.replicate_succ, List.replicate_zero, List.getElem?_cons_succ, List.getElem?_cons_zero, List.set_cons_succ, List.set_cons_zero, Nat.reduceSub, Nat.reduceAdd, Nat.zero_add, Nat.reduceLeDiff, Nat.sub_self, Bool.not_true, Bool.not_false, Bool.true_and, Bool.and_true, Bool.false_and, Bool.and_false, Bool.or_true, Bool.true_or, Bool.false_or, Bool.or_false, Bool.false_eq_true, if_true, if_false, ite_true, ite_false, true_and, and_true, decide_true, decide_false, String.reduceBEq, beq_self_eq_true, bne_self_eq_false, Bool.or_self, Bool.and_self, reduceCtorEq, Option.some.injEq, Bool.decide_eq_true, decide_eq_true_eq]
      refine (law_needless_pu h2 h3).use fun S2 s2 => ?_
      simp only [hn, ↓W_sortSet, ↓W_slT, ↓W_var, ↓W_C, ↓W_bin, ↓W_un, ↓W_chain, ↓W_tru, ↓W_tst, ↓W_notT, ↓W_andT, ↓W_orT, ↓W_andV, ↓W_orV, ↓W_notV, ↓W_if, ↓W_nil, ↓W_cons, ↓W_tup, ↓W_lst, ↓W_call, ↓W_callK, ↓W_noPart, ↓W_part, ↓W_sl, ↓W_meth, ↓W_asg, ↓W_name, ↓W_gnil, ↓W_gcons, ↓W_gseq, ↓W_gsub, ↓W_expr, ↓W_ret, ↓W_retN, ↓W_sif, ↓W_next, ↓W_brk, ↓W_cont, ↓W_sbad, ↓W_seq, ↓W_par2, ↓W_par3, ↓W_for, ↓W_lc, ↓W_yes, ↓W_iseq, ↓W_ienum, ↓W_rng1, ↓W_rng2, ↓W_while, ↓W_fun, ↓W_subD, ↓W_addI, ↓W_addS, ↓W_addT, ↓W_mulI, ↓W_fdiv, ↓W_mod, ↓W_neg, ↓W_ord, ↓W_isi, ↓W_is, ↓W_isnt, ↓W_lenT, ↓W_lenN, ↓W_intI, ↓W_intB, ↓W_abs, ↓W_max2, ↓W_min2, ↓W_divmod, ↓W_tupleT, ↓W_tupleN, ↓W_listT, ↓W_eqI, ↓W_neI, ↓W_eqB, ↓W_neB, ↓W_ix0, ↓W_ix1, ↓W_ix2, ↓its_new, ↓its_tup, ↓lst_new, En.pick, List.filterMap_cons, List.filterMap_nil, tyN, tyM, isT, truD, En.isNon, startE, wipeE, List.map_cons, List.map_nil, List.length_cons, List.length_nil, List.cons_append, List.nil_append, List.replicate_succ, List.replicate_zero, List.getElem?_cons_succ, List.getElem?_cons_zero, List.set_cons_succ, List.set_cons_zero, Nat.reduceSub, Nat.reduceAdd, Nat.zero_add, Nat.reduceLeDiff, Nat.sub_self, Bool.not_true, Bool.not_false, Bool.true_and, Bool.and_true, Bool.false_and, Bool.and_false, Bool.or_true, Bool.true_or, Bool.false_or, Bool.or_false, Bool.false_eq_true, if_true, if_false, ite_true, ite_false, true_and, and_true, decide_true, decide_false, String.reduceBEq, beq_self_eq_true, bne_self_eq_false, Bool.or_self, Bool.and_self, reduceCtorEq, Option.some.injEq, Bool.decide_eq_true, decide_eq_true_eq]
      have hj := nee_head hn
      simp only [tupI, ↓W_sortSet, ↓W_slT, ↓W_var, ↓W_C, ↓W_bin, ↓W_un, ↓W_chain, ↓W_tru, ↓W_tst, ↓W_notT, ↓W_andT, ↓W_orT, ↓W_andV, ↓W_orV, ↓W_notV, ↓W_if, ↓W_nil, ↓W_cons, ↓W_tup, ↓W_lst, ↓W_call, ↓W_callK, ↓W_noPart, ↓W_part, ↓W_sl, ↓W_meth, ↓W_asg, ↓W_name, ↓W_gnil, ↓W_gcons, ↓W_gseq, ↓W_gsub, ↓W_expr, ↓W_ret, ↓W_retN, ↓W_sif, ↓W_next, ↓W_brk, ↓W_cont, ↓W_sbad, ↓W_seq, ↓W_par2, ↓W_par3, ↓W_for, ↓W_lc, ↓W_yes, ↓W_iseq, ↓W_ienum, ↓W_rng1, ↓W_rng2, ↓W_while, ↓W_fun, ↓W_subD, ↓W_addI, ↓W_addS, ↓W_addT, ↓W_mulI, ↓W_fdiv, ↓W_mod, ↓W_neg, ↓W_ord, ↓W_isi, ↓W_is, ↓W_isnt, ↓W_lenT, ↓W_lenN, ↓W_intI, ↓W_intB, ↓W_abs, ↓W_max2, ↓W_min2, ↓W_divmod, ↓W_tupleT, ↓W_tupleN, ↓W_listT, ↓W_eqI, ↓W_neI, ↓W_eqB, ↓W_neB, ↓W_ix0, ↓W_ix1, ↓W_ix2, ↓its_new, ↓its_tup, ↓lst_new, En.pick, List.filterMap_cons, List.filterMap_nil, tyN, tyM, isT, truD, En.isNon, startE, wipeE, List.map_cons, List.map_nil, List.length_cons, List.length_nil, List.cons_append, List.nil_append, List.replicate_succ, List.replicate_zero, List.getElem?_cons_succ, List.getElem?_cons_zero, List.set_cons_succ, List.set_cons_zero, Nat.reduceSub, Nat.reduceAdd, Nat.zero_add, Nat.reduceLeDiff, Nat.sub_self, Bool.not_true, Bool.not_false, Bool.true_and, Bool.and_true, Bool.false_and, Bool.and_false, Bool.or_true, Bool.true_or, Bool.false_or, Bool.or_false, Bool.false_eq_true, if_true, if_false, ite_true, ite_false, true_and, and_true, decide_true, decide_false, String.reduceBEq, beq_self_eq_true, bne_self_eq_false, Bool.or_self, Bool.and_self, reduceCtorEq, Option.some.injEq, Bool.decide_eq_true, decide_eq_true_eq]
      refine ⟨le_lim (by have := @cut_len' (l.map D.int) none (some (j : Int)); have := @cut_len' (l.map D.int) (some ((j : Int) + 1)) none; rw [List.length_map] at *; omega), ?_⟩
      rw [cut_tup (by omega)]
      obtain ⟨m, rfl⟩ : ∃ m, n = m + 1 := ⟨n - 1, by omega⟩
      refine law_leaned_loop m f (drop1 l j) _ S2 (by rw [drop1_len (by omega)]; omega) (by rw [drop1_len (by omega)]; omega) (by rw [drop1_len (by omega)]; omega) (by omega) (s.trans (s1.trans s2)) fun x' S' s' => ?_
      rw [leanN_cons hn] at k
      exact k x' S' s'
theorem law_leaned_pu {l : List Int} (hl : l.length ≤ 900) (h1 : 1 ≤ l.length) : Pu m__law_leaned [tupI l] (tupI (lean l)) := fun S => by
  simp only [m__law_leaned, ↓W_sortSet, ↓W_slT, ↓W_var, ↓W_C, ↓W_bin, ↓W_un, ↓W_chain, ↓W_tru, ↓W_tst, ↓W_notT, ↓W_andT, ↓W_orT, ↓W_andV, ↓W_orV, ↓W_notV, ↓W_if, ↓W_nil, ↓W_cons, ↓W_tup, ↓W_lst, ↓W_call, ↓W_callK, ↓W_noPart, ↓W_part, ↓W_sl, ↓W_meth, ↓W_asg, ↓W_name, ↓W_gnil, ↓W_gcons, ↓W_gseq, ↓W_gsub, ↓W_expr, ↓W_ret, ↓W_retN, ↓W_sif, ↓W_next, ↓W_brk, ↓W_cont, ↓W_sbad, ↓W_seq, ↓W_par2, ↓W_par3, ↓W_for, ↓W_lc, ↓W_yes, ↓W_iseq, ↓W_ienum, ↓W_rng1, ↓W_rng2, ↓W_while, ↓W_fun, ↓W_subD, ↓W_addI, ↓W_addS, ↓W_addT, ↓W_mulI, ↓W_fdiv, ↓W_mod, ↓W_neg, ↓W_ord, ↓W_isi, ↓W_is, ↓W_isnt, ↓W_lenT, ↓W_lenN, ↓W_intI, ↓W_intB, ↓W_abs, ↓W_max2, ↓W_min2, ↓W_divmod, ↓W_tupleT, ↓W_tupleN, ↓W_listT, ↓W_eqI, ↓W_neI, ↓W_eqB, ↓W_neB, ↓W_ix0, ↓W_ix1, ↓W_ix2, ↓its_new, ↓its_tup, ↓lst_new, En.pick, List.filterMap_cons, List.filterMap_nil, tyN, tyM, isT, truD, En.isNon, startE, wipeE, List.map_cons, List.map_nil, List.length_cons, List.length_nil, List.cons_append, List.nil_append, List.replicate_succ, List.replicate_zero, List.getElem?_cons_succ, List.getElem?_cons_zero, List.set_cons_succ, List.set_cons_zero, Nat.reduceSub, Nat.reduceAdd, Nat.zero_add, Nat.reduceLeDiff, Nat.sub_self, Bool.not_true, Bool.not_false, Bool.true_and, Bool.and_true, Bool.false_and, Bool.and_false, Bool.or_true, Bool.true_or, Bool.false_or, Bool.or_false, Bool.false_eq_true, if_true, if_false, ite_true, ite_false, true_and, and_true, decide_true, decide_false, String.reduceBEq, beq_self_eq_true, bne_self_eq_false, Bool.or_self, Bool.and_self, reduceCtorEq, Option.some.injEq, Bool.decide_eq_true, decide_eq_true_eq]
  exact law_leaned_loop 900 100000 l none S hl hl h1 (by decide) Sub.refl fun x' S' s' => by try simp only [↓W_sortSet, ↓W_slT, ↓W_var, ↓W_C, ↓W_bin, ↓W_un, ↓W_chain, ↓W_tru, ↓W_tst, ↓W_notT, ↓W_andT, ↓W_orT, ↓W_andV, ↓W_orV, ↓W_notV, ↓W_if, ↓W_nil, ↓W_cons, ↓W_tup, ↓W_lst, ↓W_call, ↓W_callK, ↓W_noPart, ↓W_part, ↓W_sl, ↓W_meth, ↓W_asg, ↓W_name, ↓W_gnil, ↓W_gcons, ↓W_gseq, ↓W_gsub, ↓W_expr, ↓W_ret, ↓W_retN, ↓W_sif, ↓W_next, ↓W_brk, ↓W_cont, ↓W_sbad, ↓W_seq, ↓W_par2, ↓W_par3, ↓W_for, ↓W_lc, ↓W_yes, ↓W_iseq, ↓W_ienum, ↓W_rng1, ↓W_rng2, ↓W_while, ↓W_fun, ↓W_subD, ↓W_addI, ↓W_addS, ↓W_addT, ↓W_mulI, ↓W_fdiv, ↓W_mod, ↓W_neg, ↓W_ord, ↓W_isi, ↓W_is, ↓W_isnt, ↓W_lenT, ↓W_lenN, ↓W_intI, ↓W_intB, ↓W_abs, ↓W_max2, ↓W_min2, ↓W_divmod, ↓W_tupleT, ↓W_tupleN, ↓W_listT, ↓W_eqI, ↓W_neI, ↓W_eqB, ↓W_neB, ↓W_ix0, ↓W_ix1, ↓W_ix2, ↓its_new, ↓its_tup, ↓lst_new, En.pick, List.filterMap_cons, List.filterMap_nil, tyN, tyM, isT, truD, En.isNon, startE, wipeE, List.map_cons, List.map_nil, List.length_cons, List.length_nil, List.cons_append, List.nil_append, List.replicate_succ, List.replicate_zero, List.getElem?_cons_succ, List.getElem?_cons_zero, List.set_cons_succ, List.set_cons_zero, Nat.reduceSub, Nat.reduceAdd, Nat.zero_add, Nat.reduceLeDiff, Nat.sub_self, Bool.not_true, Bool.not_false, Bool.true_and, Bool.and_true, Bool.false_and, Bool.and_false, Bool.or_true, Bool.true_or, Bool.false_or, Bool.or_false, Bool.false_eq_true, if_true, if_false, ite_true, ite_false, true_and, and_true, decide_true, decide_false, String.reduceBEq, beq_self_eq_true, bne_self_eq_false, Bool.or_self, Bool.and_self, reduceCtorEq, Option.some.injEq, Bool.decide_eq_true, decide_eq_true_eq]; exact s'
theorem leaned_loop {Qo : Out → Sto → Prop} {S0 : Sto} : ∀ (n f : Nat) (l : List Int) (b : Nat) (S : Sto), l.length ≤ n → l.length ≤ 900 → 1 ≤ l.length → n < f → Sub S0 S → S[b]? = some (.lst ((needless l).map natD)) →
    (∀ x' S', Sub S0 S' → Qo (.next [some (tupI (leanN n l)), x']) S') →
    W (whileL (mTst (mBin neD (mVar 1) (mLst mNil))) (sSeq (sAsg (mCall m_without (mCons (mVar 0) (mCons (mBin ixD (mVar 1) (mC (.int 0))) mNil))) (gmName 0))
    (sAsg (mCall m_needless_in (mCons (mVar 0) mNil)) (gmName 1))) f [some (tupI l), some (.loc b)] S) Qo
  | n, 0, l, b, S, h1, h2, h3, h4, s, e, k => absurd h4 (by omega)
  | n, f + 1, l, b, S, h1, h2, h3, h4, s, e, k => by
    rw [W_whileS]
    try simp only [↓W_sortSet, ↓W_slT, ↓W_var, ↓W_C, ↓W_bin, ↓W_un, ↓W_chain, ↓W_tru, ↓W_tst, ↓W_notT, ↓W_andT, ↓W_orT, ↓W_andV, ↓W_orV, ↓W_notV, ↓W_if, ↓W_nil, ↓W_cons, ↓W_tup, ↓W_lst, ↓W_call, ↓W_callK, ↓W_noPart, ↓W_part, ↓W_sl, ↓W_meth, ↓W_asg, ↓W_name, ↓W_gnil, ↓W_gcons, ↓W_gseq, ↓W_gsub, ↓W_expr, ↓W_ret, ↓W_retN, ↓W_sif, ↓W_next, ↓W_brk, ↓W_cont, ↓W_sbad, ↓W_seq, ↓W_par2, ↓W_par3, ↓W_for, ↓W_lc, ↓W_yes, ↓W_iseq, ↓W_ienum, ↓W_rng1, ↓W_rng2, ↓W_while, ↓W_fun, ↓W_subD, ↓W_addI, ↓W_addS, ↓W_addT, ↓W_mulI, ↓W_fdiv, ↓W_mod, ↓W_neg, ↓W_ord, ↓W_isi, ↓W_is, ↓W_isnt, ↓W_lenT, ↓W_lenN, ↓W_intI, ↓W_intB, ↓W_abs, ↓W_max2, ↓W_min2, ↓W_divmod, ↓W_tupleT, ↓W_tupleN, ↓W_listT, ↓W_eqI, ↓W_neI, ↓W_eqB, ↓W_neB, ↓W_ix0, ↓W_ix1, ↓W_ix2, ↓its_new, ↓its_tup, ↓lst_new, En.pick, List.filterMap_cons, List.filterMap_nil, tyN, tyM, isT, truD, En.isNon, startE, wipeE, List.map_cons, List.map_nil, List.length_cons, List.length_nil, List.cons_append, List.nil_append, List.replicate_succ, List.replicate_zero, List.getElem?_cons_succ, List.getElem?_cons_zero, List.set_cons_succ, List.set_cons_zero, Nat.reduceSub, Nat.reduceAdd, Nat.zero_add, Nat.reduceLeDiff, Nat.sub_self, Bool.not_true, Bool.not_false, Bool.true_and, Bool.and_true, Bool.false_and, Bool.and_false, Bool.or_true, Bool.true_or, Bool.false_or, Bool.or_false, Bool.false_eq_true, if_true, if_false, ite_true, ite_false, true_and, and_true, decide_true, decide_false, String.reduceBEq, beq_self_eq_true, bne_self_eq_false, Bool.or_self, Bool.and_self, reduceCtorEq, Option.some.injEq, Bool.decide_eq_true, decide_eq_true_eq]
    refine ⟨Nat.zero_le _, ?_⟩
    rw [W_emptyNe (Sub.app _ _ e) at_new (fun x hx => by obtain ⟨i, _, rfl⟩ := List.mem_map.mp hx; trivial)]
    cases hn : needless l with
    | nil =>
      simp only [List.map_nil, List.isEmpty_nil, ↓W_sortSet, ↓W_slT, ↓W_var, ↓W_C, ↓W_bin, ↓W_un, ↓W_chain, ↓W_tru, ↓W_tst, ↓W_notT, ↓W_andT, ↓W_orT, ↓W_andV, ↓W_orV, ↓W_notV, ↓W_if, ↓W_nil, ↓W_cons, ↓W_tup, ↓W_lst, ↓W_call, ↓W_callK, ↓W_noPart, ↓W_part, ↓W_sl, ↓W_meth, ↓W_asg, ↓W_name, ↓W_gnil, ↓W_gcons, ↓W_gseq, ↓W_gsub, ↓W_expr, ↓W_ret, ↓W_retN, ↓W_sif, ↓W_next, ↓W_brk, ↓W_cont, ↓W_sbad, ↓W_seq, ↓W_par2, ↓W_par3, ↓W_for, ↓W_lc, ↓W_yes, ↓W_iseq, ↓W_ienum, ↓W_rng1, ↓W_rng2, ↓W_while, ↓W_fun, ↓W_subD, ↓W_addI, ↓W_addS, ↓W_addT, ↓W_mulI, ↓W_fdiv, ↓W_mod, ↓W_neg, ↓W_ord, ↓W_isi, ↓W_is, ↓W_isnt, ↓W_lenT, ↓W_lenN, ↓W_intI, ↓W_intB, ↓W_abs, ↓W_max2, ↓W_min2, ↓W_divmod, ↓W_tupleT, ↓W_tupleN, ↓W_listT, ↓W_eqI, ↓W_neI, ↓W_eqB, ↓W_neB, ↓W_ix0, ↓W_ix1, ↓W_ix2, ↓its_new, ↓its_tup, ↓lst_new, En.pick, List.filterMap_cons, List.filterMap_nil, tyN, tyM, isT, truD, En.isNon, startE, wipeE, List.map_cons, List.map_nil, List.length_cons, List.length_nil, List.cons_append, List.nil_append, List.replicate_succ, List.replicate_zero, List.getElem?_cons_succ, List.getElem?_cons_zero, List.set_cons_succ, List.set_cons_zero, Nat.reduceSub, Nat.reduceAdd, Nat.zero_add, Nat.reduceLeDiff, Nat.sub_self, Bool.not_true, Bool.not_false, Bool.true_and, Bool.and_true, Bool.false_and, Bool.and_false, Bool.or_true, Bool.true_or, Bool.false_or, Bool.or_false, Bool.false_eq_true, if_true, if_false, ite_true, ite_false, true_and, and_true, decide_true, decide_false, String.reduceBEq, beq_self_eq_true, bne_self_eq_false, Bool.or_self, Bool.and_self, reduceCtorEq, Option.some.injEq, Bool.decide_eq_true, decide_eq_true_eq]
      rw [leanN_nil hn] at k
      exact k _ _ s.new
    | cons j r =>
      simp only [List.map_cons, List.isEmpty_cons, ↓W_sortSet, ↓W_slT, ↓W_var, ↓W_C, ↓W_bin, ↓W_un, ↓W_chain, ↓W_tru, ↓W_tst, ↓W_notT, ↓W_andT, ↓W_orT, ↓W_andV, ↓W_orV, ↓W_notV, ↓W_if, ↓W_nil, ↓W_cons, ↓W_tup, ↓W_lst, ↓W_call, ↓W_callK, ↓W_noPart, ↓W_part, ↓W_sl, ↓W_meth, ↓W_asg, ↓W_name, ↓W_gnil, ↓W_gcons, ↓W_gseq, ↓W_gsub, ↓W_expr, ↓W_ret, ↓W_retN, ↓W_sif, ↓W_next, ↓W_brk, ↓W_cont, ↓W_sbad, ↓W_seq, ↓W_par2, ↓W_par3, ↓W_for, ↓W_lc, ↓W_yes, ↓W_iseq, ↓W_ienum, ↓W_rng1, ↓W_rng2, ↓W_while, ↓W_fun, ↓W_subD, ↓W_addI, ↓W_addS, ↓W_addT, ↓W_mulI, ↓W_fdiv, ↓W_mod, ↓W_neg, ↓W_ord, ↓W_isi, ↓W_is, ↓W_isnt, ↓W_lenT, ↓W_lenN, ↓W_intI, ↓W_intB, ↓W_abs, ↓W_max2, ↓W_min2, ↓W_divmod, ↓W_tupleT, ↓W_tupleN, ↓W_listT, ↓W_eqI, ↓W_neI, ↓W_eqB, ↓W_neB, ↓W_ix0, ↓W_ix1, ↓W_ix2, ↓its_new, ↓its_tup, ↓lst_new, En.pick, List.filterMap_cons, List.filterMap_nil, tyN, tyM, isT, truD, En.isNon, startE, wipeE, List.map_cons, List.map_nil, List.length_cons, List.length_nil, List.cons_append, List.nil_append, List.replicate_succ, List.replicate_zero, List.getElem?_cons_succ, List.getElem?_cons_zero, List.set_cons_succ, List.set_cons_zero, Nat.reduceSub, Nat.reduceAdd, Nat.zero_add, Nat.reduceLeDiff, Nat.sub_self, Bool.not_true, Bool.not_false, Bool.true_and, Bool.and_true, Bool.false_and, Bool.and_false, Bool.or_true, Bool.true_or, Bool.false_or, Bool.or_false, Bool.false_eq_true, if_true, if_false, ite_true, ite_false, true_and, and_true, decide_true, decide_false, String.reduceBEq, beq_self_eq_true, bne_self_eq_false, Bool.or_self, Bool.and_self, reduceCtorEq, Option.some.injEq, Bool.decide_eq_true, decide_eq_true_eq]
      have hj := nee_head hn
      rw [hn] at e
      rw [show ∀ Q, W (ixD (.loc b) (.int 0) (S ++ [C.lst []])) Q = Q (natD j) (S ++ [C.lst []]) from fun Q => W_ixN (i := 0) (its_at (Sub.app _ _ e)) rfl]
      refine (without_pu h2 (by omega)).use fun S2 s2 => ?_
      try simp only [↓W_sortSet, ↓W_slT, ↓W_var, ↓W_C, ↓W_bin, ↓W_un, ↓W_chain, ↓W_tru, ↓W_tst, ↓W_notT, ↓W_andT, ↓W_orT, ↓W_andV, ↓W_orV, ↓W_notV, ↓W_if, ↓W_nil, ↓W_cons, ↓W_tup, ↓W_lst, ↓W_call, ↓W_callK, ↓W_noPart, ↓W_part, ↓W_sl, ↓W_meth, ↓W_asg, ↓W_name, ↓W_gnil, ↓W_gcons, ↓W_gseq, ↓W_gsub, ↓W_expr, ↓W_ret, ↓W_retN, ↓W_sif, ↓W_next, ↓W_brk, ↓W_cont, ↓W_sbad, ↓W_seq, ↓W_par2, ↓W_par3, ↓W_for, ↓W_lc, ↓W_yes, ↓W_iseq, ↓W_ienum, ↓W_rng1, ↓W_rng2, ↓W_while, ↓W_fun, ↓W_subD, ↓W_addI, ↓W_addS, ↓W_addT, ↓W_mulI, ↓W_fdiv, ↓W_mod, ↓W_neg, ↓W_ord, ↓W_isi, ↓W_is, ↓W_isnt, ↓W_lenT, ↓W_lenN, ↓W_intI, ↓W_intB, ↓W_abs, ↓W_max2, ↓W_min2, ↓W_divmod, ↓W_tupleT, ↓W_tupleN, ↓W_listT, ↓W_eqI, ↓W_neI, ↓W_eqB, ↓W_neB, ↓W_ix0, ↓W_ix1, ↓W_ix2, ↓its_new, ↓its_tup, ↓lst_new, En.pick, List.filterMap_cons, List.filterMap_nil, tyN, tyM, isT, truD, En.isNon, startE, wipeE, List.map_cons, List.map_nil, List.length_cons, List.length_nil, List.cons_append, List.nil_append, List.replicate_succ, List.replicate_zero, List.getElem?_cons_succ, List.getElem?_cons_zero, List.set_cons_succ, List.set_cons_zero, Nat.reduceSub, Nat.reduceAdd, Nat.zero_add, Nat.reduceLeDiff, Nat.sub_self, Bool.not_true, Bool.not_false, Bool.true_and, Bool.and_true, Bool.false_and, Bool.and_false, Bool.or_true, Bool.true_or, Bool.false_or, Bool.or_false, Bool.false_eq_true, if_true, if_false, ite_true, ite_false, true_and, and_true, decide_true, decide_false, String.reduceBEq, beq_self_eq_true, bne_self_eq_false, Bool.or_self, Bool.and_self, reduceCtorEq, Option.some.injEq, Bool.decide_eq_true, decide_eq_true_eq]
      refine needless_in_spec (by rw [drop1_len (by omega)]; omega) (by rw [drop1_len (by omega)]; omega) fun b2 S3 s3 e3 => ?_
      try simp only [↓W_sortSet, ↓W_slT, ↓W_var, ↓W_C, ↓W_bin, ↓W_un, ↓W_chain, ↓W_tru, ↓W_tst, ↓W_notT, ↓W_andT, ↓W_orT, ↓W_andV, ↓W_orV, ↓W_notV, ↓W_if, ↓W_nil, ↓W_cons, ↓W_tup, ↓W_lst, ↓W_call, ↓W_callK, ↓W_noPart, ↓W_part, ↓W_sl, ↓W_meth, ↓W_asg, ↓W_name, ↓W_gnil, ↓W_gcons, ↓W_gseq, ↓W_gsub, ↓W_expr, ↓W_ret, ↓W_retN, ↓W_sif, ↓W_next, ↓W_brk, ↓W_cont, ↓W_sbad, ↓W_seq, ↓W_par2, ↓W_par3, ↓W_for, ↓W_lc, ↓W_yes, ↓W_iseq, ↓W_ienum, ↓W_rng1, ↓W_rng2, ↓W_while, ↓W_fun, ↓W_subD, ↓W_addI, ↓W_addS, ↓W_addT, ↓W_mulI, ↓W_fdiv, ↓W_mod, ↓W_neg, ↓W_ord, ↓W_isi, ↓W_is, ↓W_isnt, ↓W_lenT, ↓W_lenN, ↓W_intI, ↓W_intB, ↓W_abs, ↓W_max2, ↓W_min2, ↓W_divmod, ↓W_tupleT, ↓W_tupleN, ↓W_listT, ↓W_eqI, ↓W_neI, ↓W_eqB, ↓W_neB, ↓W_ix0, ↓W_ix1, ↓W_ix2, ↓its_new, ↓its_tup, ↓lst_new, En.pick, List.filterMap_cons, List.filterMap_nil, tyN, tyM, isT, truD, En.isNon, startE, wipeE, List.map_cons, List.map_nil, List.length_cons, List.length_nil, List.cons_append, List.nil_append, List.replicate_succ, List.replicate_zero, List.getElem?_cons_succ, List.getElem?_cons_zero, List.set_cons_succ, List.set_cons_zero, Nat.reduceSub, Nat.reduceAdd, Nat.zero_add, Nat.reduceLeDiff, Nat.sub_self, Bool.not_true, Bool.not_false, Bool.true_and, Bool.and_true, Bool.false_and, Bool.and_false, Bool.or_true, Bool.true_or, Bool.false_or, Bool.or_false, Bool.false_eq_true, if_true, if_false, ite_true, ite_false, true_and, and_true, decide_true, decide_false, String.reduceBEq, beq_self_eq_true, bne_self_eq_false, Bool.or_self, Bool.and_self, reduceCtorEq, Option.some.injEq, Bool.decide_eq_true, decide_eq_true_eq]
      obtain ⟨m, rfl⟩ : ∃ m, n = m + 1 := ⟨n - 1, by omega⟩
      refine leaned_loop m f (drop1 l j) b2 S3 (by rw [drop1_len (by omega)]; omega) (by rw [drop1_len (by omega)]; omega) (by rw [drop1_len (by omega)]; omega) (by omega) (s.new.trans (s2.trans s3)) e3 fun x' S' s' => ?_
      rw [leanN_cons hn] at k
      exact k x' S' s'
theorem leaned_by_pu {l : List Int} (hl : l.length ≤ 900) (h1 : 1 ≤ l.length) : Pu m_leaned_by [tupI l] (tupI (lean l)) := fun S => by
  simp only [m_leaned_by, ↓W_sortSet, ↓W_slT, ↓W_var, ↓W_C, ↓W_bin, ↓W_un, ↓W_chain, ↓W_tru, ↓W_tst, ↓W_notT, ↓W_andT, ↓W_orT, ↓W_andV, ↓W_orV, ↓W_notV, ↓W_if, ↓W_nil, ↓W_cons, ↓W_tup, ↓W_lst, ↓W_call, ↓W_callK, ↓W_noPart, ↓W_part, ↓W_sl, ↓W_meth, ↓W_asg, ↓W_name, ↓W_gnil, ↓W_gcons, ↓W_gseq, ↓W_gsub, ↓W_expr, ↓W_ret, ↓W_retN, ↓W_sif, ↓W_next, ↓W_brk, ↓W_cont, ↓W_sbad, ↓W_seq, ↓W_par2, ↓W_par3, ↓W_for, ↓W_lc, ↓W_yes, ↓W_iseq, ↓W_ienum, ↓W_rng1, ↓W_rng2, ↓W_while, ↓W_fun, ↓W_subD, ↓W_addI, ↓W_addS, ↓W_addT, ↓W_mulI, ↓W_fdiv, ↓W_mod, ↓W_neg, ↓W_ord, ↓W_isi, ↓W_is, ↓W_isnt, ↓W_lenT, ↓W_lenN, ↓W_intI, ↓W_intB, ↓W_abs, ↓W_max2, ↓W_min2, ↓W_divmod, ↓W_tupleT, ↓W_tupleN, ↓W_listT, ↓W_eqI, ↓W_neI, ↓W_eqB, ↓W_neB, ↓W_ix0, ↓W_ix1, ↓W_ix2, ↓its_new, ↓its_tup, ↓lst_new, En.pick, List.filterMap_cons, List.filterMap_nil, tyN, tyM, isT, truD, En.isNon, startE, wipeE, List.map_cons, List.map_nil, List.length_cons, List.length_nil, List.cons_append, List.nil_append, List.replicate_succ, List.replicate_zero, List.getElem?_cons_succ, List.getElem?_cons_zero, List.set_cons_succ, List.set_cons_zero, Nat.reduceSub, Nat.reduceAdd, Nat.zero_add, Nat.reduceLeDiff, Nat.sub_self, Bool.not_true, Bool.not_false, Bool.true_and, Bool.and_true, Bool.false_and, Bool.and_false, Bool.or_true, Bool.true_or, Bool.false_or, Bool.or_false, Bool.false_eq_true, if_true, if_false, ite_true, ite_false, true_and, and_true, decide_true, decide_false, String.reduceBEq, beq_self_eq_true, bne_self_eq_false, Bool.or_self, Bool.and_self, reduceCtorEq, Option.some.injEq, Bool.decide_eq_true, decide_eq_true_eq]
  refine needless_in_spec hl h1 fun b S1 s e => ?_
  try simp only [↓W_sortSet, ↓W_slT, ↓W_var, ↓W_C, ↓W_bin, ↓W_un, ↓W_chain, ↓W_tru, ↓W_tst, ↓W_notT, ↓W_andT, ↓W_orT, ↓W_andV, ↓W_orV, ↓W_notV, ↓W_if, ↓W_nil, ↓W_cons, ↓W_tup, ↓W_lst, ↓W_call, ↓W_callK, ↓W_noPart, ↓W_part, ↓W_sl, ↓W_meth, ↓W_asg, ↓W_name, ↓W_gnil, ↓W_gcons, ↓W_gseq, ↓W_gsub, ↓W_expr, ↓W_ret, ↓W_retN, ↓W_sif, ↓W_next, ↓W_brk, ↓W_cont, ↓W_sbad, ↓W_seq, ↓W_par2, ↓W_par3, ↓W_for, ↓W_lc, ↓W_yes, ↓W_iseq, ↓W_ienum, ↓W_rng1, ↓W_rng2, ↓W_while, ↓W_fun, ↓W_subD, ↓W_addI, ↓W_addS, ↓W_addT, ↓W_mulI, ↓W_fdiv, ↓W_mod, ↓W_neg, ↓W_ord, ↓W_isi, ↓W_is, ↓W_isnt, ↓W_lenT, ↓W_lenN, ↓W_intI, ↓W_intB, ↓W_abs, ↓W_max2, ↓W_min2, ↓W_divmod, ↓W_tupleT, ↓W_tupleN, ↓W_listT, ↓W_eqI, ↓W_neI, ↓W_eqB, ↓W_neB, ↓W_ix0, ↓W_ix1, ↓W_ix2, ↓its_new, ↓its_tup, ↓lst_new, En.pick, List.filterMap_cons, List.filterMap_nil, tyN, tyM, isT, truD, En.isNon, startE, wipeE, List.map_cons, List.map_nil, List.length_cons, List.length_nil, List.cons_append, List.nil_append, List.replicate_succ, List.replicate_zero, List.getElem?_cons_succ, List.getElem?_cons_zero, List.set_cons_succ, List.set_cons_zero, Nat.reduceSub, Nat.reduceAdd, Nat.zero_add, Nat.reduceLeDiff, Nat.sub_self, Bool.not_true, Bool.not_false, Bool.true_and, Bool.and_true, Bool.false_and, Bool.and_false, Bool.or_true, Bool.true_or, Bool.false_or, Bool.or_false, Bool.false_eq_true, if_true, if_false, ite_true, ite_false, true_and, and_true, decide_true, decide_false, String.reduceBEq, beq_self_eq_true, bne_self_eq_false, Bool.or_self, Bool.and_self, reduceCtorEq, Option.some.injEq, Bool.decide_eq_true, decide_eq_true_eq]
  exact leaned_loop 900 100000 l b S1 hl hl h1 (by decide) s e fun x' S' s' => by try simp only [↓W_sortSet, ↓W_slT, ↓W_var, ↓W_C, ↓W_bin, ↓W_un, ↓W_chain, ↓W_tru, ↓W_tst, ↓W_notT, ↓W_andT, ↓W_orT, ↓W_andV, ↓W_orV, ↓W_notV, ↓W_if, ↓W_nil, ↓W_cons, ↓W_tup, ↓W_lst, ↓W_call, ↓W_callK, ↓W_noPart, ↓W_part, ↓W_sl, ↓W_meth, ↓W_asg, ↓W_name, ↓W_gnil, ↓W_gcons, ↓W_gseq, ↓W_gsub, ↓W_expr, ↓W_ret, ↓W_retN, ↓W_sif, ↓W_next, ↓W_brk, ↓W_cont, ↓W_sbad, ↓W_seq, ↓W_par2, ↓W_par3, ↓W_for, ↓W_lc, ↓W_yes, ↓W_iseq, ↓W_ienum, ↓W_rng1, ↓W_rng2, ↓W_while, ↓W_fun, ↓W_subD, ↓W_addI, ↓W_addS, ↓W_addT, ↓W_mulI, ↓W_fdiv, ↓W_mod, ↓W_neg, ↓W_ord, ↓W_isi, ↓W_is, ↓W_isnt, ↓W_lenT, ↓W_lenN, ↓W_intI, ↓W_intB, ↓W_abs, ↓W_max2, ↓W_min2, ↓W_divmod, ↓W_tupleT, ↓W_tupleN, ↓W_listT, ↓W_eqI, ↓W_neI, ↓W_eqB, ↓W_neB, ↓W_ix0, ↓W_ix1, ↓W_ix2, ↓its_new, ↓its_tup, ↓lst_new, En.pick, List.filterMap_cons, List.filterMap_nil, tyN, tyM, isT, truD, En.isNon, startE, wipeE, List.map_cons, List.map_nil, List.length_cons, List.length_nil, List.cons_append, List.nil_append, List.replicate_succ, List.replicate_zero, List.getElem?_cons_succ, List.getElem?_cons_zero, List.set_cons_succ, List.set_cons_zero, Nat.reduceSub, Nat.reduceAdd, Nat.zero_add, Nat.reduceLeDiff, Nat.sub_self, Bool.not_true, Bool.not_false, Bool.true_and, Bool.and_true, Bool.false_and, Bool.and_false, Bool.or_true, Bool.true_or, Bool.false_or, Bool.or_false, Bool.false_eq_true, if_true, if_false, ite_true, ite_false, true_and, and_true, decide_true, decide_false, String.reduceBEq, beq_self_eq_true, bne_self_eq_false, Bool.or_self, Bool.and_self, reduceCtorEq, Option.some.injEq, Bool.decide_eq_true, decide_eq_true_eq]; exact s'
theorem ok_pos {l : List Int} (h : rowOk l = true) : 1 ≤ l.length := by
  cases l with
  | nil => cases h
  | cons _ _ => simp
theorem needless_pu {l : List Int} (hl : l.length ≤ 900) (h : rowOk l = true) : Pu m_needless [tupI l] (.tup ((needless l).map natD)) := fun S => by
  simp only [m_needless, ↓W_sortSet, ↓W_slT, ↓W_var, ↓W_C, ↓W_bin, ↓W_un, ↓W_chain, ↓W_tru, ↓W_tst, ↓W_notT, ↓W_andT, ↓W_orT, ↓W_andV, ↓W_orV, ↓W_notV, ↓W_if, ↓W_nil, ↓W_cons, ↓W_tup, ↓W_lst, ↓W_call, ↓W_callK, ↓W_noPart, ↓W_part, ↓W_sl, ↓W_meth, ↓W_asg, ↓W_name, ↓W_gnil, ↓W_gcons, ↓W_gseq, ↓W_gsub, ↓W_expr, ↓W_ret, ↓W_retN, ↓W_sif, ↓W_next, ↓W_brk, ↓W_cont, ↓W_sbad, ↓W_seq, ↓W_par2, ↓W_par3, ↓W_for, ↓W_lc, ↓W_yes, ↓W_iseq, ↓W_ienum, ↓W_rng1, ↓W_rng2, ↓W_while, ↓W_fun, ↓W_subD, ↓W_addI, ↓W_addS, ↓W_addT, ↓W_mulI, ↓W_fdiv, ↓W_mod, ↓W_neg, ↓W_ord, ↓W_isi, ↓W_is, ↓W_isnt, ↓W_lenT, ↓W_lenN, ↓W_intI, ↓W_intB, ↓W_abs, ↓W_max2, ↓W_min2, ↓W_divmod, ↓W_tupleT, ↓W_tupleN, ↓W_listT, ↓W_eqI, ↓W_neI, ↓W_eqB, ↓W_neB, ↓W_ix0, ↓W_ix1, ↓W_ix2, ↓its_new, ↓its_tup, ↓lst_new, En.pick, List.filterMap_cons, List.filterMap_nil, tyN, tyM, isT, truD, En.isNon, startE, wipeE, List.map_cons, List.map_nil, List.length_cons, List.length_nil, List.cons_append, List.nil_append, List.replicate_succ, List.replicate_zero, List.getElem?_cons_succ, List.getElem?_cons_zero, List.set_cons_succ, List.set_cons_zero, Nat.reduceSub, Nat.reduceAdd, Nat.zero_add, Nat.reduceLeDiff, Nat.sub_self, Bool.not_true, Bool.not_false, Bool.true_and, Bool.and_true, Bool.false_and, Bool.and_false, Bool.or_true, Bool.true_or, Bool.false_or, Bool.or_false, Bool.false_eq_true, if_true, if_false, ite_true, ite_false, true_and, and_true, decide_true, decide_false, String.reduceBEq, beq_self_eq_true, bne_self_eq_false, Bool.or_self, Bool.and_self, reduceCtorEq, Option.some.injEq, Bool.decide_eq_true, decide_eq_true_eq]
  refine (check_row_pu (by omega) h).use fun S1 s1 => ?_
  try simp only [↓W_sortSet, ↓W_slT, ↓W_var, ↓W_C, ↓W_bin, ↓W_un, ↓W_chain, ↓W_tru, ↓W_tst, ↓W_notT, ↓W_andT, ↓W_orT, ↓W_andV, ↓W_orV, ↓W_notV, ↓W_if, ↓W_nil, ↓W_cons, ↓W_tup, ↓W_lst, ↓W_call, ↓W_callK, ↓W_noPart, ↓W_part, ↓W_sl, ↓W_meth, ↓W_asg, ↓W_name, ↓W_gnil, ↓W_gcons, ↓W_gseq, ↓W_gsub, ↓W_expr, ↓W_ret, ↓W_retN, ↓W_sif, ↓W_next, ↓W_brk, ↓W_cont, ↓W_sbad, ↓W_seq, ↓W_par2, ↓W_par3, ↓W_for, ↓W_lc, ↓W_yes, ↓W_iseq, ↓W_ienum, ↓W_rng1, ↓W_rng2, ↓W_while, ↓W_fun, ↓W_subD, ↓W_addI, ↓W_addS, ↓W_addT, ↓W_mulI, ↓W_fdiv, ↓W_mod, ↓W_neg, ↓W_ord, ↓W_isi, ↓W_is, ↓W_isnt, ↓W_lenT, ↓W_lenN, ↓W_intI, ↓W_intB, ↓W_abs, ↓W_max2, ↓W_min2, ↓W_divmod, ↓W_tupleT, ↓W_tupleN, ↓W_listT, ↓W_eqI, ↓W_neI, ↓W_eqB, ↓W_neB, ↓W_ix0, ↓W_ix1, ↓W_ix2, ↓its_new, ↓its_tup, ↓lst_new, En.pick, List.filterMap_cons, List.filterMap_nil, tyN, tyM, isT, truD, En.isNon, startE, wipeE, List.map_cons, List.map_nil, List.length_cons, List.length_nil, List.cons_append, List.nil_append, List.replicate_succ, List.replicate_zero, List.getElem?_cons_succ, List.getElem?_cons_zero, List.set_cons_succ, List.set_cons_zero, Nat.reduceSub, Nat.reduceAdd, Nat.zero_add, Nat.reduceLeDiff, Nat.sub_self, Bool.not_true, Bool.not_false, Bool.true_and, Bool.and_true, Bool.false_and, Bool.and_false, Bool.or_true, Bool.true_or, Bool.false_or, Bool.or_false, Bool.false_eq_true, if_true, if_false, ite_true, ite_false, true_and, and_true, decide_true, decide_false, String.reduceBEq, beq_self_eq_true, bne_self_eq_false, Bool.or_self, Bool.and_self, reduceCtorEq, Option.some.injEq, Bool.decide_eq_true, decide_eq_true_eq]
  refine needless_in_spec hl (ok_pos h) fun b S2 s2 e => ?_
  rw [W_tuple (its_at e)]
  try simp only [↓W_sortSet, ↓W_slT, ↓W_var, ↓W_C, ↓W_bin, ↓W_un, ↓W_chain, ↓W_tru, ↓W_tst, ↓W_notT, ↓W_andT, ↓W_orT, ↓W_andV, ↓W_orV, ↓W_notV, ↓W_if, ↓W_nil, ↓W_cons, ↓W_tup, ↓W_lst, ↓W_call, ↓W_callK, ↓W_noPart, ↓W_part, ↓W_sl, ↓W_meth, ↓W_asg, ↓W_name, ↓W_gnil, ↓W_gcons, ↓W_gseq, ↓W_gsub, ↓W_expr, ↓W_ret, ↓W_retN, ↓W_sif, ↓W_next, ↓W_brk, ↓W_cont, ↓W_sbad, ↓W_seq, ↓W_par2, ↓W_par3, ↓W_for, ↓W_lc, ↓W_yes, ↓W_iseq, ↓W_ienum, ↓W_rng1, ↓W_rng2, ↓W_while, ↓W_fun, ↓W_subD, ↓W_addI, ↓W_addS, ↓W_addT, ↓W_mulI, ↓W_fdiv, ↓W_mod, ↓W_neg, ↓W_ord, ↓W_isi, ↓W_is, ↓W_isnt, ↓W_lenT, ↓W_lenN, ↓W_intI, ↓W_intB, ↓W_abs, ↓W_max2, ↓W_min2, ↓W_divmod, ↓W_tupleT, ↓W_tupleN, ↓W_listT, ↓W_eqI, ↓W_neI, ↓W_eqB, ↓W_neB, ↓W_ix0, ↓W_ix1, ↓W_ix2, ↓its_new, ↓its_tup, ↓lst_new, En.pick, List.filterMap_cons, List.filterMap_nil, tyN, tyM, isT, truD, En.isNon, startE, wipeE, List.map_cons, List.map_nil, List.length_cons, List.length_nil, List.cons_append, List.nil_append, List.replicate_succ, List.replicate_zero, List.getElem?_cons_succ, List.getElem?_cons_zero, List.set_cons_succ, List.set_cons_zero, Nat.reduceSub, Nat.reduceAdd, Nat.zero_add, Nat.reduceLeDiff, Nat.sub_self, Bool.not_true, Bool.not_false, Bool.true_and, Bool.and_true, Bool.false_and, Bool.and_false, Bool.or_true, Bool.true_or, Bool.false_or, Bool.or_false, Bool.false_eq_true, if_true, if_false, ite_true, ite_false, true_and, and_true, decide_true, decide_false, String.reduceBEq, beq_self_eq_true, bne_self_eq_false, Bool.or_self, Bool.and_self, reduceCtorEq, Option.some.injEq, Bool.decide_eq_true, decide_eq_true_eq]
  exact s1.trans s2
theorem leaned_pu {l : List Int} (hl : l.length ≤ 900) (h : rowOk l = true) : Pu m_leaned [tupI l] (tupI (lean l)) := fun S => by
  simp only [m_leaned, ↓W_sortSet, ↓W_slT, ↓W_var, ↓W_C, ↓W_bin, ↓W_un, ↓W_chain, ↓W_tru, ↓W_tst, ↓W_notT, ↓W_andT, ↓W_orT, ↓W_andV, ↓W_orV, ↓W_notV, ↓W_if, ↓W_nil, ↓W_cons, ↓W_tup, ↓W_lst, ↓W_call, ↓W_callK, ↓W_noPart, ↓W_part, ↓W_sl, ↓W_meth, ↓W_asg, ↓W_name, ↓W_gnil, ↓W_gcons, ↓W_gseq, ↓W_gsub, ↓W_expr, ↓W_ret, ↓W_retN, ↓W_sif, ↓W_next, ↓W_brk, ↓W_cont, ↓W_sbad, ↓W_seq, ↓W_par2, ↓W_par3, ↓W_for, ↓W_lc, ↓W_yes, ↓W_iseq, ↓W_ienum, ↓W_rng1, ↓W_rng2, ↓W_while, ↓W_fun, ↓W_subD, ↓W_addI, ↓W_addS, ↓W_addT, ↓W_mulI, ↓W_fdiv, ↓W_mod, ↓W_neg, ↓W_ord, ↓W_isi, ↓W_is, ↓W_isnt, ↓W_lenT, ↓W_lenN, ↓W_intI, ↓W_intB, ↓W_abs, ↓W_max2, ↓W_min2, ↓W_divmod, ↓W_tupleT, ↓W_tupleN, ↓W_listT, ↓W_eqI, ↓W_neI, ↓W_eqB, ↓W_neB, ↓W_ix0, ↓W_ix1, ↓W_ix2, ↓its_new, ↓its_tup, ↓lst_new, En.pick, List.filterMap_cons, List.filterMap_nil, tyN, tyM, isT, truD, En.isNon, startE, wipeE, List.map_cons, List.map_nil, List.length_cons, List.length_nil, List.cons_append, List.nil_append, List.replicate_succ, List.replicate_zero, List.getElem?_cons_succ, List.getElem?_cons_zero, List.set_cons_succ, List.set_cons_zero, Nat.reduceSub, Nat.reduceAdd, Nat.zero_add, Nat.reduceLeDiff, Nat.sub_self, Bool.not_true, Bool.not_false, Bool.true_and, Bool.and_true, Bool.false_and, Bool.and_false, Bool.or_true, Bool.true_or, Bool.false_or, Bool.or_false, Bool.false_eq_true, if_true, if_false, ite_true, ite_false, true_and, and_true, decide_true, decide_false, String.reduceBEq, beq_self_eq_true, bne_self_eq_false, Bool.or_self, Bool.and_self, reduceCtorEq, Option.some.injEq, Bool.decide_eq_true, decide_eq_true_eq]
  refine (check_row_pu (by omega) h).use fun S1 s1 => ?_
  try simp only [↓W_sortSet, ↓W_slT, ↓W_var, ↓W_C, ↓W_bin, ↓W_un, ↓W_chain, ↓W_tru, ↓W_tst, ↓W_notT, ↓W_andT, ↓W_orT, ↓W_andV, ↓W_orV, ↓W_notV, ↓W_if, ↓W_nil, ↓W_cons, ↓W_tup, ↓W_lst, ↓W_call, ↓W_callK, ↓W_noPart, ↓W_part, ↓W_sl, ↓W_meth, ↓W_asg, ↓W_name, ↓W_gnil, ↓W_gcons, ↓W_gseq, ↓W_gsub, ↓W_expr, ↓W_ret, ↓W_retN, ↓W_sif, ↓W_next, ↓W_brk, ↓W_cont, ↓W_sbad, ↓W_seq, ↓W_par2, ↓W_par3, ↓W_for, ↓W_lc, ↓W_yes, ↓W_iseq, ↓W_ienum, ↓W_rng1, ↓W_rng2, ↓W_while, ↓W_fun, ↓W_subD, ↓W_addI, ↓W_addS, ↓W_addT, ↓W_mulI, ↓W_fdiv, ↓W_mod, ↓W_neg, ↓W_ord, ↓W_isi, ↓W_is, ↓W_isnt, ↓W_lenT, ↓W_lenN, ↓W_intI, ↓W_intB, ↓W_abs, ↓W_max2, ↓W_min2, ↓W_divmod, ↓W_tupleT, ↓W_tupleN, ↓W_listT, ↓W_eqI, ↓W_neI, ↓W_eqB, ↓W_neB, ↓W_ix0, ↓W_ix1, ↓W_ix2, ↓its_new, ↓its_tup, ↓lst_new, En.pick, List.filterMap_cons, List.filterMap_nil, tyN, tyM, isT, truD, En.isNon, startE, wipeE, List.map_cons, List.map_nil, List.length_cons, List.length_nil, List.cons_append, List.nil_append, List.replicate_succ, List.replicate_zero, List.getElem?_cons_succ, List.getElem?_cons_zero, List.set_cons_succ, List.set_cons_zero, Nat.reduceSub, Nat.reduceAdd, Nat.zero_add, Nat.reduceLeDiff, Nat.sub_self, Bool.not_true, Bool.not_false, Bool.true_and, Bool.and_true, Bool.false_and, Bool.and_false, Bool.or_true, Bool.true_or, Bool.false_or, Bool.or_false, Bool.false_eq_true, if_true, if_false, ite_true, ite_false, true_and, and_true, decide_true, decide_false, String.reduceBEq, beq_self_eq_true, bne_self_eq_false, Bool.or_self, Bool.and_self, reduceCtorEq, Option.some.injEq, Bool.decide_eq_true, decide_eq_true_eq]
  refine (leaned_by_pu hl (ok_pos h)).use fun S2 s2 => ?_
  try simp only [↓W_sortSet, ↓W_slT, ↓W_var, ↓W_C, ↓W_bin, ↓W_un, ↓W_chain, ↓W_tru, ↓W_tst, ↓W_notT, ↓W_andT, ↓W_orT, ↓W_andV, ↓W_orV, ↓W_notV, ↓W_if, ↓W_nil, ↓W_cons, ↓W_tup, ↓W_lst, ↓W_call, ↓W_callK, ↓W_noPart, ↓W_part, ↓W_sl, ↓W_meth, ↓W_asg, ↓W_name, ↓W_gnil, ↓W_gcons, ↓W_gseq, ↓W_gsub, ↓W_expr, ↓W_ret, ↓W_retN, ↓W_sif, ↓W_next, ↓W_brk, ↓W_cont, ↓W_sbad, ↓W_seq, ↓W_par2, ↓W_par3, ↓W_for, ↓W_lc, ↓W_yes, ↓W_iseq, ↓W_ienum, ↓W_rng1, ↓W_rng2, ↓W_while, ↓W_fun, ↓W_subD, ↓W_addI, ↓W_addS, ↓W_addT, ↓W_mulI, ↓W_fdiv, ↓W_mod, ↓W_neg, ↓W_ord, ↓W_isi, ↓W_is, ↓W_isnt, ↓W_lenT, ↓W_lenN, ↓W_intI, ↓W_intB, ↓W_abs, ↓W_max2, ↓W_min2, ↓W_divmod, ↓W_tupleT, ↓W_tupleN, ↓W_listT, ↓W_eqI, ↓W_neI, ↓W_eqB, ↓W_neB, ↓W_ix0, ↓W_ix1, ↓W_ix2, ↓its_new, ↓its_tup, ↓lst_new, En.pick, List.filterMap_cons, List.filterMap_nil, tyN, tyM, isT, truD, En.isNon, startE, wipeE, List.map_cons, List.map_nil, List.length_cons, List.length_nil, List.cons_append, List.nil_append, List.replicate_succ, List.replicate_zero, List.getElem?_cons_succ, List.getElem?_cons_zero, List.set_cons_succ, List.set_cons_zero, Nat.reduceSub, Nat.reduceAdd, Nat.zero_add, Nat.reduceLeDiff, Nat.sub_self, Bool.not_true, Bool.not_false, Bool.true_and, Bool.and_true, Bool.false_and, Bool.and_false, Bool.or_true, Bool.true_or, Bool.false_or, Bool.or_false, Bool.false_eq_true, if_true, if_false, ite_true, ite_false, true_and, and_true, decide_true, decide_false, String.reduceBEq, beq_self_eq_true, bne_self_eq_false, Bool.or_self, Bool.and_self, reduceCtorEq, Option.some.injEq, Bool.decide_eq_true, decide_eq_true_eq]
  exact s1.trans s2
theorem is_lean_pu {l : List Int} (hl : l.length ≤ 900) (h : rowOk l = true) : Pu m_is_lean [tupI l] (.bl (needless l).isEmpty) := fun S => by
  simp only [m_is_lean, ↓W_sortSet, ↓W_slT, ↓W_var, ↓W_C, ↓W_bin, ↓W_un, ↓W_chain, ↓W_tru, ↓W_tst, ↓W_notT, ↓W_andT, ↓W_orT, ↓W_andV, ↓W_orV, ↓W_notV, ↓W_if, ↓W_nil, ↓W_cons, ↓W_tup, ↓W_lst, ↓W_call, ↓W_callK, ↓W_noPart, ↓W_part, ↓W_sl, ↓W_meth, ↓W_asg, ↓W_name, ↓W_gnil, ↓W_gcons, ↓W_gseq, ↓W_gsub, ↓W_expr, ↓W_ret, ↓W_retN, ↓W_sif, ↓W_next, ↓W_brk, ↓W_cont, ↓W_sbad, ↓W_seq, ↓W_par2, ↓W_par3, ↓W_for, ↓W_lc, ↓W_yes, ↓W_iseq, ↓W_ienum, ↓W_rng1, ↓W_rng2, ↓W_while, ↓W_fun, ↓W_subD, ↓W_addI, ↓W_addS, ↓W_addT, ↓W_mulI, ↓W_fdiv, ↓W_mod, ↓W_neg, ↓W_ord, ↓W_isi, ↓W_is, ↓W_isnt, ↓W_lenT, ↓W_lenN, ↓W_intI, ↓W_intB, ↓W_abs, ↓W_max2, ↓W_min2, ↓W_divmod, ↓W_tupleT, ↓W_tupleN, ↓W_listT, ↓W_eqI, ↓W_neI, ↓W_eqB, ↓W_neB, ↓W_ix0, ↓W_ix1, ↓W_ix2, ↓its_new, ↓its_tup, ↓lst_new, En.pick, List.filterMap_cons, List.filterMap_nil, tyN, tyM, isT, truD, En.isNon, startE, wipeE, List.map_cons, List.map_nil, List.length_cons, List.length_nil, List.cons_append, List.nil_append, List.replicate_succ, List.replicate_zero, List.getElem?_cons_succ, List.getElem?_cons_zero, List.set_cons_succ, List.set_cons_zero, Nat.reduceSub, Nat.reduceAdd, Nat.zero_add, Nat.reduceLeDiff, Nat.sub_self, Bool.not_true, Bool.not_false, Bool.true_and, Bool.and_true, Bool.false_and, Bool.and_false, Bool.or_true, Bool.true_or, Bool.false_or, Bool.or_false, Bool.false_eq_true, if_true, if_false, ite_true, ite_false, true_and, and_true, decide_true, decide_false, String.reduceBEq, beq_self_eq_true, bne_self_eq_false, Bool.or_self, Bool.and_self, reduceCtorEq, Option.some.injEq, Bool.decide_eq_true, decide_eq_true_eq]
  refine (needless_pu hl h).use fun S1 s1 => ?_
  try simp only [↓W_sortSet, ↓W_slT, ↓W_var, ↓W_C, ↓W_bin, ↓W_un, ↓W_chain, ↓W_tru, ↓W_tst, ↓W_notT, ↓W_andT, ↓W_orT, ↓W_andV, ↓W_orV, ↓W_notV, ↓W_if, ↓W_nil, ↓W_cons, ↓W_tup, ↓W_lst, ↓W_call, ↓W_callK, ↓W_noPart, ↓W_part, ↓W_sl, ↓W_meth, ↓W_asg, ↓W_name, ↓W_gnil, ↓W_gcons, ↓W_gseq, ↓W_gsub, ↓W_expr, ↓W_ret, ↓W_retN, ↓W_sif, ↓W_next, ↓W_brk, ↓W_cont, ↓W_sbad, ↓W_seq, ↓W_par2, ↓W_par3, ↓W_for, ↓W_lc, ↓W_yes, ↓W_iseq, ↓W_ienum, ↓W_rng1, ↓W_rng2, ↓W_while, ↓W_fun, ↓W_subD, ↓W_addI, ↓W_addS, ↓W_addT, ↓W_mulI, ↓W_fdiv, ↓W_mod, ↓W_neg, ↓W_ord, ↓W_isi, ↓W_is, ↓W_isnt, ↓W_lenT, ↓W_lenN, ↓W_intI, ↓W_intB, ↓W_abs, ↓W_max2, ↓W_min2, ↓W_divmod, ↓W_tupleT, ↓W_tupleN, ↓W_listT, ↓W_eqI, ↓W_neI, ↓W_eqB, ↓W_neB, ↓W_ix0, ↓W_ix1, ↓W_ix2, ↓its_new, ↓its_tup, ↓lst_new, En.pick, List.filterMap_cons, List.filterMap_nil, tyN, tyM, isT, truD, En.isNon, startE, wipeE, List.map_cons, List.map_nil, List.length_cons, List.length_nil, List.cons_append, List.nil_append, List.replicate_succ, List.replicate_zero, List.getElem?_cons_succ, List.getElem?_cons_zero, List.set_cons_succ, List.set_cons_zero, Nat.reduceSub, Nat.reduceAdd, Nat.zero_add, Nat.reduceLeDiff, Nat.sub_self, Bool.not_true, Bool.not_false, Bool.true_and, Bool.and_true, Bool.false_and, Bool.and_false, Bool.or_true, Bool.true_or, Bool.false_or, Bool.or_false, Bool.false_eq_true, if_true, if_false, ite_true, ite_false, true_and, and_true, decide_true, decide_false, String.reduceBEq, beq_self_eq_true, bne_self_eq_false, Bool.or_self, Bool.and_self, reduceCtorEq, Option.some.injEq, Bool.decide_eq_true, decide_eq_true_eq]
  refine ⟨Nat.zero_le _, ?_⟩
  rw [W_eqNil (ok_nats (n := 5) (by have := @nee_len l; omega) (by decide)), List.isEmpty_map]
  exact ⟨rfl, s1⟩
theorem made_pu {l : List Int} (hl : l.length ≤ 900) (h : rowOk l = true) : Pu m_made [tupI l] (.int ((l.getLast?).getD 0)) := fun S => by
  have h1 := ok_pos h
  simp only [m_made, ↓W_sortSet, ↓W_slT, ↓W_var, ↓W_C, ↓W_bin, ↓W_un, ↓W_chain, ↓W_tru, ↓W_tst, ↓W_notT, ↓W_andT, ↓W_orT, ↓W_andV, ↓W_orV, ↓W_notV, ↓W_if, ↓W_nil, ↓W_cons, ↓W_tup, ↓W_lst, ↓W_call, ↓W_callK, ↓W_noPart, ↓W_part, ↓W_sl, ↓W_meth, ↓W_asg, ↓W_name, ↓W_gnil, ↓W_gcons, ↓W_gseq, ↓W_gsub, ↓W_expr, ↓W_ret, ↓W_retN, ↓W_sif, ↓W_next, ↓W_brk, ↓W_cont, ↓W_sbad, ↓W_seq, ↓W_par2, ↓W_par3, ↓W_for, ↓W_lc, ↓W_yes, ↓W_iseq, ↓W_ienum, ↓W_rng1, ↓W_rng2, ↓W_while, ↓W_fun, ↓W_subD, ↓W_addI, ↓W_addS, ↓W_addT, ↓W_mulI, ↓W_fdiv, ↓W_mod, ↓W_neg, ↓W_ord, ↓W_isi, ↓W_is, ↓W_isnt, ↓W_lenT, ↓W_lenN, ↓W_intI, ↓W_intB, ↓W_abs, ↓W_max2, ↓W_min2, ↓W_divmod, ↓W_tupleT, ↓W_tupleN, ↓W_listT, ↓W_eqI, ↓W_neI, ↓W_eqB, ↓W_neB, ↓W_ix0, ↓W_ix1, ↓W_ix2, ↓its_new, ↓its_tup, ↓lst_new, En.pick, List.filterMap_cons, List.filterMap_nil, tyN, tyM, isT, truD, En.isNon, startE, wipeE, List.map_cons, List.map_nil, List.length_cons, List.length_nil, List.cons_append, List.nil_append, List.replicate_succ, List.replicate_zero, List.getElem?_cons_succ, List.getElem?_cons_zero, List.set_cons_succ, List.set_cons_zero, Nat.reduceSub, Nat.reduceAdd, Nat.zero_add, Nat.reduceLeDiff, Nat.sub_self, Bool.not_true, Bool.not_false, Bool.true_and, Bool.and_true, Bool.false_and, Bool.and_false, Bool.or_true, Bool.true_or, Bool.false_or, Bool.or_false, Bool.false_eq_true, if_true, if_false, ite_true, ite_false, true_and, and_true, decide_true, decide_false, String.reduceBEq, beq_self_eq_true, bne_self_eq_false, Bool.or_self, Bool.and_self, reduceCtorEq, Option.some.injEq, Bool.decide_eq_true, decide_eq_true_eq]
  refine (check_row_pu (by omega) h).use fun S1 s1 => ?_
  simp only [tupI, ↓W_sortSet, ↓W_slT, ↓W_var, ↓W_C, ↓W_bin, ↓W_un, ↓W_chain, ↓W_tru, ↓W_tst, ↓W_notT, ↓W_andT, ↓W_orT, ↓W_andV, ↓W_orV, ↓W_notV, ↓W_if, ↓W_nil, ↓W_cons, ↓W_tup, ↓W_lst, ↓W_call, ↓W_callK, ↓W_noPart, ↓W_part, ↓W_sl, ↓W_meth, ↓W_asg, ↓W_name, ↓W_gnil, ↓W_gcons, ↓W_gseq, ↓W_gsub, ↓W_expr, ↓W_ret, ↓W_retN, ↓W_sif, ↓W_next, ↓W_brk, ↓W_cont, ↓W_sbad, ↓W_seq, ↓W_par2, ↓W_par3, ↓W_for, ↓W_lc, ↓W_yes, ↓W_iseq, ↓W_ienum, ↓W_rng1, ↓W_rng2, ↓W_while, ↓W_fun, ↓W_subD, ↓W_addI, ↓W_addS, ↓W_addT, ↓W_mulI, ↓W_fdiv, ↓W_mod, ↓W_neg, ↓W_ord, ↓W_isi, ↓W_is, ↓W_isnt, ↓W_lenT, ↓W_lenN, ↓W_intI, ↓W_intB, ↓W_abs, ↓W_max2, ↓W_min2, ↓W_divmod, ↓W_tupleT, ↓W_tupleN, ↓W_listT, ↓W_eqI, ↓W_neI, ↓W_eqB, ↓W_neB, ↓W_ix0, ↓W_ix1, ↓W_ix2, ↓its_new, ↓its_tup, ↓lst_new, En.pick, List.filterMap_cons, List.filterMap_nil, tyN, tyM, isT, truD, En.isNon, startE, wipeE, List.map_cons, List.map_nil, List.length_cons, List.length_nil, List.cons_append, List.nil_append, List.replicate_succ, List.replicate_zero, List.getElem?_cons_succ, List.getElem?_cons_zero, List.set_cons_succ, List.set_cons_zero, Nat.reduceSub, Nat.reduceAdd, Nat.zero_add, Nat.reduceLeDiff, Nat.sub_self, Bool.not_true, Bool.not_false, Bool.true_and, Bool.and_true, Bool.false_and, Bool.and_false, Bool.or_true, Bool.true_or, Bool.false_or, Bool.or_false, Bool.false_eq_true, if_true, if_false, ite_true, ite_false, true_and, and_true, decide_true, decide_false, String.reduceBEq, beq_self_eq_true, bne_self_eq_false, Bool.or_self, Bool.and_self, reduceCtorEq, Option.some.injEq, Bool.decide_eq_true, decide_eq_true_eq]
  rw [W_ix (ds := l.map D.int) rfl]
  have : atI (l.map D.int) (-1) = some (.int ((l.getLast?).getD 0)) := by
    unfold atI ixN
    rw [if_neg (by decide), if_pos (by rw [List.length_map]; omega)]
    simp only [List.length_map, Option.bind_some]
    rw [show ((-1 : Int) + (l.length : Int)).toNat = l.length - 1 from by omega, List.getElem?_map, List.getLast?_eq_getElem?, List.getElem?_eq_getElem (by omega)]
    rfl
  rw [this]
  exact ⟨rfl, s1⟩
theorem is_row_pu {l : List Int} (hl : l.length ≤ 900) : Pu m_is_row [tupI l] (.bl (rowOk l)) := fun S => by
  simp only [m_is_row, ↓W_sortSet, ↓W_slT, ↓W_var, ↓W_C, ↓W_bin, ↓W_un, ↓W_chain, ↓W_tru, ↓W_tst, ↓W_notT, ↓W_andT, ↓W_orT, ↓W_andV, ↓W_orV, ↓W_notV, ↓W_if, ↓W_nil, ↓W_cons, ↓W_tup, ↓W_lst, ↓W_call, ↓W_callK, ↓W_noPart, ↓W_part, ↓W_sl, ↓W_meth, ↓W_asg, ↓W_name, ↓W_gnil, ↓W_gcons, ↓W_gseq, ↓W_gsub, ↓W_expr, ↓W_ret, ↓W_retN, ↓W_sif, ↓W_next, ↓W_brk, ↓W_cont, ↓W_sbad, ↓W_seq, ↓W_par2, ↓W_par3, ↓W_for, ↓W_lc, ↓W_yes, ↓W_iseq, ↓W_ienum, ↓W_rng1, ↓W_rng2, ↓W_while, ↓W_fun, ↓W_subD, ↓W_addI, ↓W_addS, ↓W_addT, ↓W_mulI, ↓W_fdiv, ↓W_mod, ↓W_neg, ↓W_ord, ↓W_isi, ↓W_is, ↓W_isnt, ↓W_lenT, ↓W_lenN, ↓W_intI, ↓W_intB, ↓W_abs, ↓W_max2, ↓W_min2, ↓W_divmod, ↓W_tupleT, ↓W_tupleN, ↓W_listT, ↓W_eqI, ↓W_neI, ↓W_eqB, ↓W_neB, ↓W_ix0, ↓W_ix1, ↓W_ix2, ↓its_new, ↓its_tup, ↓lst_new, En.pick, List.filterMap_cons, List.filterMap_nil, tyN, tyM, isT, truD, En.isNon, startE, wipeE, List.map_cons, List.map_nil, List.length_cons, List.length_nil, List.cons_append, List.nil_append, List.replicate_succ, List.replicate_zero, List.getElem?_cons_succ, List.getElem?_cons_zero, List.set_cons_succ, List.set_cons_zero, Nat.reduceSub, Nat.reduceAdd, Nat.zero_add, Nat.reduceLeDiff, Nat.sub_self, Bool.not_true, Bool.not_false, Bool.true_and, Bool.and_true, Bool.false_and, Bool.and_false, Bool.or_true, Bool.true_or, Bool.false_or, Bool.or_false, Bool.false_eq_true, if_true, if_false, ite_true, ite_false, true_and, and_true, decide_true, decide_false, String.reduceBEq, beq_self_eq_true, bne_self_eq_false, Bool.or_self, Bool.and_self, reduceCtorEq, Option.some.injEq, Bool.decide_eq_true, decide_eq_true_eq]
  exact (is_row_value_pu (by omega)).use fun S' s => ⟨rfl, s⟩
end L_k07
namespace L_k07
open PySem L2 En
theorem nat_int {xs : List Nat} : xs.map natD = (xs.map fun n : Nat => (n : Int)).map D.int := by rw [List.map_map]; rfl
theorem cont_nat {xs : List Nat} {k : Nat} : (xs.map fun n : Nat => (n : Int)).contains (k : Int) = decide (k ∈ xs) := by
  rw [Bool.eq_iff_iff]
  simp only [List.contains_iff_mem, List.mem_map, decide_eq_true_eq]
  constructor
  · rintro ⟨n, h, e⟩
    have : n = k := by omega
    subst this; exact h
  · intro h
    exact ⟨k, h, rfl⟩
theorem nee_iff {l : List Int} {k : Nat} (h1 : 1 ≤ k) (h2 : k + 1 < l.length) : decide (k ∈ needless l) = rowOk (drop1 l k) := by
  rw [Bool.eq_iff_iff, decide_eq_true_eq]
  unfold needless
  rw [List.mem_filter, List.mem_range'_1]
  exact ⟨fun h => h.2, fun h => ⟨by omega, h⟩⟩
theorem row_right_pu {l : List Int} (hl : l.length ≤ 900) (h : rowOk l = true) : Pu m__law_row_right [tupI l] (.bl true) := fun S => by
  have h1 := ok_pos h
  have nl := @nee_len l
  have ll : (lean l).length ≤ 900 := Nat.le_trans (lean_len 900 l) hl
  have lo : rowOk (lean l) = true := lean_ok 900 l h
  have l1 := ok_pos lo
  have ln : needless (lean l) = [] := lean_nee 900 l hl
  have okd : okD 5 (.tup ((needless l).map natD)) := ok_nats (by omega) (by decide)
  have okl : okD 5 (tupI (lean l)) := ok_tupI (by omega) (by decide)
  simp only [m__law_row_right, ↓W_sortSet, ↓W_slT, ↓W_var, ↓W_C, ↓W_bin, ↓W_un, ↓W_chain, ↓W_tru, ↓W_tst, ↓W_notT, ↓W_andT, ↓W_orT, ↓W_andV, ↓W_orV, ↓W_notV, ↓W_if, ↓W_nil, ↓W_cons, ↓W_tup, ↓W_lst, ↓W_call, ↓W_callK, ↓W_noPart, ↓W_part, ↓W_sl, ↓W_meth, ↓W_asg, ↓W_name, ↓W_gnil, ↓W_gcons, ↓W_gseq, ↓W_gsub, ↓W_expr, ↓W_ret, ↓W_retN, ↓W_sif, ↓W_next, ↓W_brk, ↓W_cont, ↓W_sbad, ↓W_seq, ↓W_par2, ↓W_par3, ↓W_for, ↓W_lc, ↓W_yes, ↓W_iseq, ↓W_ienum, ↓W_rng1, ↓W_rng2, ↓W_while, ↓W_fun, ↓W_subD, ↓W_addI, ↓W_addS, ↓W_addT, ↓W_mulI, ↓W_fdiv, ↓W_mod, ↓W_neg, ↓W_ord, ↓W_isi, ↓W_is, ↓W_isnt, ↓W_lenT, ↓W_lenN, ↓W_intI, ↓W_intB, ↓W_abs, ↓W_max2, ↓W_min2, ↓W_divmod, ↓W_tupleT, ↓W_tupleN, ↓W_listT, ↓W_eqI, ↓W_neI, ↓W_eqB, ↓W_neB, ↓W_ix0, ↓W_ix1, ↓W_ix2, ↓its_new, ↓its_tup, ↓lst_new, En.pick, List.filterMap_cons, List.filterMap_nil, tyN, tyM, isT, truD, En.isNon, startE, wipeE, List.map_cons, List.map_nil, List.length_cons, List.length_nil, List.cons_append, List.nil_append, List.replicate_succ, List.replicate_zero, List.getElem?_cons_succ, List.getElem?_cons_zero, List.set_cons_succ, List.set_cons_zero, Nat.reduceSub, Nat.reduceAdd, Nat.zero_add, Nat.reduceLeDiff, Nat.sub_self, Bool.not_true, Bool.not_false, Bool.true_and, Bool.and_true, Bool.false_and, Bool.and_false, Bool.or_true, Bool.true_or, Bool.false_or, Bool.or_false, Bool.false_eq_true, if_true, if_false, ite_true, ite_false, true_and, and_true, decide_true, decide_false, String.reduceBEq, beq_self_eq_true, bne_self_eq_false, Bool.or_self, Bool.and_self, reduceCtorEq, Option.some.injEq, Bool.decide_eq_true, decide_eq_true_eq]
  refine (law_needless_pu hl h1).use fun S1 s1 => ?_
  try simp only [↓W_sortSet, ↓W_slT, ↓W_var, ↓W_C, ↓W_bin, ↓W_un, ↓W_chain, ↓W_tru, ↓W_tst, ↓W_notT, ↓W_andT, ↓W_orT, ↓W_andV, ↓W_orV, ↓W_notV, ↓W_if, ↓W_nil, ↓W_cons, ↓W_tup, ↓W_lst, ↓W_call, ↓W_callK, ↓W_noPart, ↓W_part, ↓W_sl, ↓W_meth, ↓W_asg, ↓W_name, ↓W_gnil, ↓W_gcons, ↓W_gseq, ↓W_gsub, ↓W_expr, ↓W_ret, ↓W_retN, ↓W_sif, ↓W_next, ↓W_brk, ↓W_cont, ↓W_sbad, ↓W_seq, ↓W_par2, ↓W_par3, ↓W_for, ↓W_lc, ↓W_yes, ↓W_iseq, ↓W_ienum, ↓W_rng1, ↓W_rng2, ↓W_while, ↓W_fun, ↓W_subD, ↓W_addI, ↓W_addS, ↓W_addT, ↓W_mulI, ↓W_fdiv, ↓W_mod, ↓W_neg, ↓W_ord, ↓W_isi, ↓W_is, ↓W_isnt, ↓W_lenT, ↓W_lenN, ↓W_intI, ↓W_intB, ↓W_abs, ↓W_max2, ↓W_min2, ↓W_divmod, ↓W_tupleT, ↓W_tupleN, ↓W_listT, ↓W_eqI, ↓W_neI, ↓W_eqB, ↓W_neB, ↓W_ix0, ↓W_ix1, ↓W_ix2, ↓its_new, ↓its_tup, ↓lst_new, En.pick, List.filterMap_cons, List.filterMap_nil, tyN, tyM, isT, truD, En.isNon, startE, wipeE, List.map_cons, List.map_nil, List.length_cons, List.length_nil, List.cons_append, List.nil_append, List.replicate_succ, List.replicate_zero, List.getElem?_cons_succ, List.getElem?_cons_zero, List.set_cons_succ, List.set_cons_zero, Nat.reduceSub, Nat.reduceAdd, Nat.zero_add, Nat.reduceLeDiff, Nat.sub_self, Bool.not_true, Bool.not_false, Bool.true_and, Bool.and_true, Bool.false_and, Bool.and_false, Bool.or_true, Bool.true_or, Bool.false_or, Bool.or_false, Bool.false_eq_true, if_true, if_false, ite_true, ite_false, true_and, and_true, decide_true, decide_false, String.reduceBEq, beq_self_eq_true, bne_self_eq_false, Bool.or_self, Bool.and_self, reduceCtorEq, Option.some.injEq, Bool.decide_eq_true, decide_eq_true_eq]
  refine (law_leaned_pu hl h1).use fun S2 s2 => ?_
  try simp only [↓W_sortSet, ↓W_slT, ↓W_var, ↓W_C, ↓W_bin, ↓W_un, ↓W_chain, ↓W_tru, ↓W_tst, ↓W_notT, ↓W_andT, ↓W_orT, ↓W_andV, ↓W_orV, ↓W_notV, ↓W_if, ↓W_nil, ↓W_cons, ↓W_tup, ↓W_lst, ↓W_call, ↓W_callK, ↓W_noPart, ↓W_part, ↓W_sl, ↓W_meth, ↓W_asg, ↓W_name, ↓W_gnil, ↓W_gcons, ↓W_gseq, ↓W_gsub, ↓W_expr, ↓W_ret, ↓W_retN, ↓W_sif, ↓W_next, ↓W_brk, ↓W_cont, ↓W_sbad, ↓W_seq, ↓W_par2, ↓W_par3, ↓W_for, ↓W_lc, ↓W_yes, ↓W_iseq, ↓W_ienum, ↓W_rng1, ↓W_rng2, ↓W_while, ↓W_fun, ↓W_subD, ↓W_addI, ↓W_addS, ↓W_addT, ↓W_mulI, ↓W_fdiv, ↓W_mod, ↓W_neg, ↓W_ord, ↓W_isi, ↓W_is, ↓W_isnt, ↓W_lenT, ↓W_lenN, ↓W_intI, ↓W_intB, ↓W_abs, ↓W_max2, ↓W_min2, ↓W_divmod, ↓W_tupleT, ↓W_tupleN, ↓W_listT, ↓W_eqI, ↓W_neI, ↓W_eqB, ↓W_neB, ↓W_ix0, ↓W_ix1, ↓W_ix2, ↓its_new, ↓its_tup, ↓lst_new, En.pick, List.filterMap_cons, List.filterMap_nil, tyN, tyM, isT, truD, En.isNon, startE, wipeE, List.map_cons, List.map_nil, List.length_cons, List.length_nil, List.cons_append, List.nil_append, List.replicate_succ, List.replicate_zero, List.getElem?_cons_succ, List.getElem?_cons_zero, List.set_cons_succ, List.set_cons_zero, Nat.reduceSub, Nat.reduceAdd, Nat.zero_add, Nat.reduceLeDiff, Nat.sub_self, Bool.not_true, Bool.not_false, Bool.true_and, Bool.and_true, Bool.false_and, Bool.and_false, Bool.or_true, Bool.true_or, Bool.false_or, Bool.or_false, Bool.false_eq_true, if_true, if_false, ite_true, ite_false, true_and, and_true, decide_true, decide_false, String.reduceBEq, beq_self_eq_true, bne_self_eq_false, Bool.or_self, Bool.and_self, reduceCtorEq, Option.some.injEq, Bool.decide_eq_true, decide_eq_true_eq]
  refine ⟨by decide, ?_⟩
  refine (needless_pu hl h).use fun S3 s3 => ?_
  try simp only [↓W_sortSet, ↓W_slT, ↓W_var, ↓W_C, ↓W_bin, ↓W_un, ↓W_chain, ↓W_tru, ↓W_tst, ↓W_notT, ↓W_andT, ↓W_orT, ↓W_andV, ↓W_orV, ↓W_notV, ↓W_if, ↓W_nil, ↓W_cons, ↓W_tup, ↓W_lst, ↓W_call, ↓W_callK, ↓W_noPart, ↓W_part, ↓W_sl, ↓W_meth, ↓W_asg, ↓W_name, ↓W_gnil, ↓W_gcons, ↓W_gseq, ↓W_gsub, ↓W_expr, ↓W_ret, ↓W_retN, ↓W_sif, ↓W_next, ↓W_brk, ↓W_cont, ↓W_sbad, ↓W_seq, ↓W_par2, ↓W_par3, ↓W_for, ↓W_lc, ↓W_yes, ↓W_iseq, ↓W_ienum, ↓W_rng1, ↓W_rng2, ↓W_while, ↓W_fun, ↓W_subD, ↓W_addI, ↓W_addS, ↓W_addT, ↓W_mulI, ↓W_fdiv, ↓W_mod, ↓W_neg, ↓W_ord, ↓W_isi, ↓W_is, ↓W_isnt, ↓W_lenT, ↓W_lenN, ↓W_intI, ↓W_intB, ↓W_abs, ↓W_max2, ↓W_min2, ↓W_divmod, ↓W_tupleT, ↓W_tupleN, ↓W_listT, ↓W_eqI, ↓W_neI, ↓W_eqB, ↓W_neB, ↓W_ix0, ↓W_ix1, ↓W_ix2, ↓its_new, ↓its_tup, ↓lst_new, En.pick, List.filterMap_cons, List.filterMap_nil, tyN, tyM, isT, truD, En.isNon, startE, wipeE, List.map_cons, List.map_nil, List.length_cons, List.length_nil, List.cons_append, List.nil_append, List.replicate_succ, List.replicate_zero, List.getElem?_cons_succ, List.getElem?_cons_zero, List.set_cons_succ, List.set_cons_zero, Nat.reduceSub, Nat.reduceAdd, Nat.zero_add, Nat.reduceLeDiff, Nat.sub_self, Bool.not_true, Bool.not_false, Bool.true_and, Bool.and_true, Bool.false_and, Bool.and_false, Bool.or_true, Bool.true_or, Bool.false_or, Bool.or_false, Bool.false_eq_true, if_true, if_false, ite_true, ite_false, true_and, and_true, decide_true, decide_false, String.reduceBEq, beq_self_eq_true, bne_self_eq_false, Bool.or_self, Bool.and_self, reduceCtorEq, Option.some.injEq, Bool.decide_eq_true, decide_eq_true_eq]
  refine (needless_pu hl h).use fun S4 s4 => ?_
  try simp only [↓W_sortSet, ↓W_slT, ↓W_var, ↓W_C, ↓W_bin, ↓W_un, ↓W_chain, ↓W_tru, ↓W_tst, ↓W_notT, ↓W_andT, ↓W_orT, ↓W_andV, ↓W_orV, ↓W_notV, ↓W_if, ↓W_nil, ↓W_cons, ↓W_tup, ↓W_lst, ↓W_call, ↓W_callK, ↓W_noPart, ↓W_part, ↓W_sl, ↓W_meth, ↓W_asg, ↓W_name, ↓W_gnil, ↓W_gcons, ↓W_gseq, ↓W_gsub, ↓W_expr, ↓W_ret, ↓W_retN, ↓W_sif, ↓W_next, ↓W_brk, ↓W_cont, ↓W_sbad, ↓W_seq, ↓W_par2, ↓W_par3, ↓W_for, ↓W_lc, ↓W_yes, ↓W_iseq, ↓W_ienum, ↓W_rng1, ↓W_rng2, ↓W_while, ↓W_fun, ↓W_subD, ↓W_addI, ↓W_addS, ↓W_addT, ↓W_mulI, ↓W_fdiv, ↓W_mod, ↓W_neg, ↓W_ord, ↓W_isi, ↓W_is, ↓W_isnt, ↓W_lenT, ↓W_lenN, ↓W_intI, ↓W_intB, ↓W_abs, ↓W_max2, ↓W_min2, ↓W_divmod, ↓W_tupleT, ↓W_tupleN, ↓W_listT, ↓W_eqI, ↓W_neI, ↓W_eqB, ↓W_neB, ↓W_ix0, ↓W_ix1, ↓W_ix2, ↓its_new, ↓its_tup, ↓lst_new, En.pick, List.filterMap_cons, List.filterMap_nil, tyN, tyM, isT, truD, En.isNon, startE, wipeE, List.map_cons, List.map_nil, List.length_cons, List.length_nil, List.cons_append, List.nil_append, List.replicate_succ, List.replicate_zero, List.getElem?_cons_succ, List.getElem?_cons_zero, List.set_cons_succ, List.set_cons_zero, Nat.reduceSub, Nat.reduceAdd, Nat.zero_add, Nat.reduceLeDiff, Nat.sub_self, Bool.not_true, Bool.not_false, Bool.true_and, Bool.and_true, Bool.false_and, Bool.and_false, Bool.or_true, Bool.true_or, Bool.false_or, Bool.or_false, Bool.false_eq_true, if_true, if_false, ite_true, ite_false, true_and, and_true, decide_true, decide_false, String.reduceBEq, beq_self_eq_true, bne_self_eq_false, Bool.or_self, Bool.and_self, reduceCtorEq, Option.some.injEq, Bool.decide_eq_true, decide_eq_true_eq]
  refine (is_lean_pu hl h).use fun S5 s5 => ?_
  try simp only [↓W_sortSet, ↓W_slT, ↓W_var, ↓W_C, ↓W_bin, ↓W_un, ↓W_chain, ↓W_tru, ↓W_tst, ↓W_notT, ↓W_andT, ↓W_orT, ↓W_andV, ↓W_orV, ↓W_notV, ↓W_if, ↓W_nil, ↓W_cons, ↓W_tup, ↓W_lst, ↓W_call, ↓W_callK, ↓W_noPart, ↓W_part, ↓W_sl, ↓W_meth, ↓W_asg, ↓W_name, ↓W_gnil, ↓W_gcons, ↓W_gseq, ↓W_gsub, ↓W_expr, ↓W_ret, ↓W_retN, ↓W_sif, ↓W_next, ↓W_brk, ↓W_cont, ↓W_sbad, ↓W_seq, ↓W_par2, ↓W_par3, ↓W_for, ↓W_lc, ↓W_yes, ↓W_iseq, ↓W_ienum, ↓W_rng1, ↓W_rng2, ↓W_while, ↓W_fun, ↓W_subD, ↓W_addI, ↓W_addS, ↓W_addT, ↓W_mulI, ↓W_fdiv, ↓W_mod, ↓W_neg, ↓W_ord, ↓W_isi, ↓W_is, ↓W_isnt, ↓W_lenT, ↓W_lenN, ↓W_intI, ↓W_intB, ↓W_abs, ↓W_max2, ↓W_min2, ↓W_divmod, ↓W_tupleT, ↓W_tupleN, ↓W_listT, ↓W_eqI, ↓W_neI, ↓W_eqB, ↓W_neB, ↓W_ix0, ↓W_ix1, ↓W_ix2, ↓its_new, ↓its_tup, ↓lst_new, En.pick, List.filterMap_cons, List.filterMap_nil, tyN, tyM, isT, truD, En.isNon, startE, wipeE, List.map_cons, List.map_nil, List.length_cons, List.length_nil, List.cons_append, List.nil_append, List.replicate_succ, List.replicate_zero, List.getElem?_cons_succ, List.getElem?_cons_zero, List.set_cons_succ, List.set_cons_zero, Nat.reduceSub, Nat.reduceAdd, Nat.zero_add, Nat.reduceLeDiff, Nat.sub_self, Bool.not_true, Bool.not_false, Bool.true_and, Bool.and_true, Bool.false_and, Bool.and_false, Bool.or_true, Bool.true_or, Bool.false_or, Bool.or_false, Bool.false_eq_true, if_true, if_false, ite_true, ite_false, true_and, and_true, decide_true, decide_false, String.reduceBEq, beq_self_eq_true, bne_self_eq_false, Bool.or_self, Bool.and_self, reduceCtorEq, Option.some.injEq, Bool.decide_eq_true, decide_eq_true_eq]
  refine (is_lean_pu hl h).use fun S6 s6 => ?_
  try simp only [↓W_sortSet, ↓W_slT, ↓W_var, ↓W_C, ↓W_bin, ↓W_un, ↓W_chain, ↓W_tru, ↓W_tst, ↓W_notT, ↓W_andT, ↓W_orT, ↓W_andV, ↓W_orV, ↓W_notV, ↓W_if, ↓W_nil, ↓W_cons, ↓W_tup, ↓W_lst, ↓W_call, ↓W_callK, ↓W_noPart, ↓W_part, ↓W_sl, ↓W_meth, ↓W_asg, ↓W_name, ↓W_gnil, ↓W_gcons, ↓W_gseq, ↓W_gsub, ↓W_expr, ↓W_ret, ↓W_retN, ↓W_sif, ↓W_next, ↓W_brk, ↓W_cont, ↓W_sbad, ↓W_seq, ↓W_par2, ↓W_par3, ↓W_for, ↓W_lc, ↓W_yes, ↓W_iseq, ↓W_ienum, ↓W_rng1, ↓W_rng2, ↓W_while, ↓W_fun, ↓W_subD, ↓W_addI, ↓W_addS, ↓W_addT, ↓W_mulI, ↓W_fdiv, ↓W_mod, ↓W_neg, ↓W_ord, ↓W_isi, ↓W_is, ↓W_isnt, ↓W_lenT, ↓W_lenN, ↓W_intI, ↓W_intB, ↓W_abs, ↓W_max2, ↓W_min2, ↓W_divmod, ↓W_tupleT, ↓W_tupleN, ↓W_listT, ↓W_eqI, ↓W_neI, ↓W_eqB, ↓W_neB, ↓W_ix0, ↓W_ix1, ↓W_ix2, ↓its_new, ↓its_tup, ↓lst_new, En.pick, List.filterMap_cons, List.filterMap_nil, tyN, tyM, isT, truD, En.isNon, startE, wipeE, List.map_cons, List.map_nil, List.length_cons, List.length_nil, List.cons_append, List.nil_append, List.replicate_succ, List.replicate_zero, List.getElem?_cons_succ, List.getElem?_cons_zero, List.set_cons_succ, List.set_cons_zero, Nat.reduceSub, Nat.reduceAdd, Nat.zero_add, Nat.reduceLeDiff, Nat.sub_self, Bool.not_true, Bool.not_false, Bool.true_and, Bool.and_true, Bool.false_and, Bool.and_false, Bool.or_true, Bool.true_or, Bool.false_or, Bool.or_false, Bool.false_eq_true, if_true, if_false, ite_true, ite_false, true_and, and_true, decide_true, decide_false, String.reduceBEq, beq_self_eq_true, bne_self_eq_false, Bool.or_self, Bool.and_self, reduceCtorEq, Option.some.injEq, Bool.decide_eq_true, decide_eq_true_eq]
  refine (leaned_pu hl h).use fun S7 s7 => ?_
  try simp only [↓W_sortSet, ↓W_slT, ↓W_var, ↓W_C, ↓W_bin, ↓W_un, ↓W_chain, ↓W_tru, ↓W_tst, ↓W_notT, ↓W_andT, ↓W_orT, ↓W_andV, ↓W_orV, ↓W_notV, ↓W_if, ↓W_nil, ↓W_cons, ↓W_tup, ↓W_lst, ↓W_call, ↓W_callK, ↓W_noPart, ↓W_part, ↓W_sl, ↓W_meth, ↓W_asg, ↓W_name, ↓W_gnil, ↓W_gcons, ↓W_gseq, ↓W_gsub, ↓W_expr, ↓W_ret, ↓W_retN, ↓W_sif, ↓W_next, ↓W_brk, ↓W_cont, ↓W_sbad, ↓W_seq, ↓W_par2, ↓W_par3, ↓W_for, ↓W_lc, ↓W_yes, ↓W_iseq, ↓W_ienum, ↓W_rng1, ↓W_rng2, ↓W_while, ↓W_fun, ↓W_subD, ↓W_addI, ↓W_addS, ↓W_addT, ↓W_mulI, ↓W_fdiv, ↓W_mod, ↓W_neg, ↓W_ord, ↓W_isi, ↓W_is, ↓W_isnt, ↓W_lenT, ↓W_lenN, ↓W_intI, ↓W_intB, ↓W_abs, ↓W_max2, ↓W_min2, ↓W_divmod, ↓W_tupleT, ↓W_tupleN, ↓W_listT, ↓W_eqI, ↓W_neI, ↓W_eqB, ↓W_neB, ↓W_ix0, ↓W_ix1, ↓W_ix2, ↓its_new, ↓its_tup, ↓lst_new, En.pick, List.filterMap_cons, List.filterMap_nil, tyN, tyM, isT, truD, En.isNon, startE, wipeE, List.map_cons, List.map_nil, List.length_cons, List.length_nil, List.cons_append, List.nil_append, List.replicate_succ, List.replicate_zero, List.getElem?_cons_succ, List.getElem?_cons_zero, List.set_cons_succ, List.set_cons_zero, Nat.reduceSub, Nat.reduceAdd, Nat.zero_add, Nat.reduceLeDiff, Nat.sub_self, Bool.not_true, Bool.not_false, Bool.true_and, Bool.and_true, Bool.false_and, Bool.and_false, Bool.or_true, Bool.true_or, Bool.false_or, Bool.or_false, Bool.false_eq_true, if_true, if_false, ite_true, ite_false, true_and, and_true, decide_true, decide_false, String.reduceBEq, beq_self_eq_true, bne_self_eq_false, Bool.or_self, Bool.and_self, reduceCtorEq, Option.some.injEq, Bool.decide_eq_true, decide_eq_true_eq]
  refine (leaned_pu hl h).use fun S8 s8 => ?_
  try simp only [↓W_sortSet, ↓W_slT, ↓W_var, ↓W_C, ↓W_bin, ↓W_un, ↓W_chain, ↓W_tru, ↓W_tst, ↓W_notT, ↓W_andT, ↓W_orT, ↓W_andV, ↓W_orV, ↓W_notV, ↓W_if, ↓W_nil, ↓W_cons, ↓W_tup, ↓W_lst, ↓W_call, ↓W_callK, ↓W_noPart, ↓W_part, ↓W_sl, ↓W_meth, ↓W_asg, ↓W_name, ↓W_gnil, ↓W_gcons, ↓W_gseq, ↓W_gsub, ↓W_expr, ↓W_ret, ↓W_retN, ↓W_sif, ↓W_next, ↓W_brk, ↓W_cont, ↓W_sbad, ↓W_seq, ↓W_par2, ↓W_par3, ↓W_for, ↓W_lc, ↓W_yes, ↓W_iseq, ↓W_ienum, ↓W_rng1, ↓W_rng2, ↓W_while, ↓W_fun, ↓W_subD, ↓W_addI, ↓W_addS, ↓W_addT, ↓W_mulI, ↓W_fdiv, ↓W_mod, ↓W_neg, ↓W_ord, ↓W_isi, ↓W_is, ↓W_isnt, ↓W_lenT, ↓W_lenN, ↓W_intI, ↓W_intB, ↓W_abs, ↓W_max2, ↓W_min2, ↓W_divmod, ↓W_tupleT, ↓W_tupleN, ↓W_listT, ↓W_eqI, ↓W_neI, ↓W_eqB, ↓W_neB, ↓W_ix0, ↓W_ix1, ↓W_ix2, ↓its_new, ↓its_tup, ↓lst_new, En.pick, List.filterMap_cons, List.filterMap_nil, tyN, tyM, isT, truD, En.isNon, startE, wipeE, List.map_cons, List.map_nil, List.length_cons, List.length_nil, List.cons_append, List.nil_append, List.replicate_succ, List.replicate_zero, List.getElem?_cons_succ, List.getElem?_cons_zero, List.set_cons_succ, List.set_cons_zero, Nat.reduceSub, Nat.reduceAdd, Nat.zero_add, Nat.reduceLeDiff, Nat.sub_self, Bool.not_true, Bool.not_false, Bool.true_and, Bool.and_true, Bool.false_and, Bool.and_false, Bool.or_true, Bool.true_or, Bool.false_or, Bool.or_false, Bool.false_eq_true, if_true, if_false, ite_true, ite_false, true_and, and_true, decide_true, decide_false, String.reduceBEq, beq_self_eq_true, bne_self_eq_false, Bool.or_self, Bool.and_self, reduceCtorEq, Option.some.injEq, Bool.decide_eq_true, decide_eq_true_eq]
  refine ⟨by decide, Nat.zero_le _, ?_⟩
  rw [W_eqNil okd]
  try simp only [↓W_sortSet, ↓W_slT, ↓W_var, ↓W_C, ↓W_bin, ↓W_un, ↓W_chain, ↓W_tru, ↓W_tst, ↓W_notT, ↓W_andT, ↓W_orT, ↓W_andV, ↓W_orV, ↓W_notV, ↓W_if, ↓W_nil, ↓W_cons, ↓W_tup, ↓W_lst, ↓W_call, ↓W_callK, ↓W_noPart, ↓W_part, ↓W_sl, ↓W_meth, ↓W_asg, ↓W_name, ↓W_gnil, ↓W_gcons, ↓W_gseq, ↓W_gsub, ↓W_expr, ↓W_ret, ↓W_retN, ↓W_sif, ↓W_next, ↓W_brk, ↓W_cont, ↓W_sbad, ↓W_seq, ↓W_par2, ↓W_par3, ↓W_for, ↓W_lc, ↓W_yes, ↓W_iseq, ↓W_ienum, ↓W_rng1, ↓W_rng2, ↓W_while, ↓W_fun, ↓W_subD, ↓W_addI, ↓W_addS, ↓W_addT, ↓W_mulI, ↓W_fdiv, ↓W_mod, ↓W_neg, ↓W_ord, ↓W_isi, ↓W_is, ↓W_isnt, ↓W_lenT, ↓W_lenN, ↓W_intI, ↓W_intB, ↓W_abs, ↓W_max2, ↓W_min2, ↓W_divmod, ↓W_tupleT, ↓W_tupleN, ↓W_listT, ↓W_eqI, ↓W_neI, ↓W_eqB, ↓W_neB, ↓W_ix0, ↓W_ix1, ↓W_ix2, ↓its_new, ↓its_tup, ↓lst_new, En.pick, List.filterMap_cons, List.filterMap_nil, tyN, tyM, isT, truD, En.isNon, startE, wipeE, List.map_cons, List.map_nil, List.length_cons, List.length_nil, List.cons_append, List.nil_append, List.replicate_succ, List.replicate_zero, List.getElem?_cons_succ, List.getElem?_cons_zero, List.set_cons_succ, List.set_cons_zero, Nat.reduceSub, Nat.reduceAdd, Nat.zero_add, Nat.reduceLeDiff, Nat.sub_self, Bool.not_true, Bool.not_false, Bool.true_and, Bool.and_true, Bool.false_and, Bool.and_false, Bool.or_true, Bool.true_or, Bool.false_or, Bool.or_false, Bool.false_eq_true, if_true, if_false, ite_true, ite_false, true_and, and_true, decide_true, decide_false, String.reduceBEq, beq_self_eq_true, bne_self_eq_false, Bool.or_self, Bool.and_self, reduceCtorEq, Option.some.injEq, Bool.decide_eq_true, decide_eq_true_eq]
  refine ⟨Nat.zero_le _, ?_⟩
  rw [W_eqNil okd]
  try simp only [↓W_sortSet, ↓W_slT, ↓W_var, ↓W_C, ↓W_bin, ↓W_un, ↓W_chain, ↓W_tru, ↓W_tst, ↓W_notT, ↓W_andT, ↓W_orT, ↓W_andV, ↓W_orV, ↓W_notV, ↓W_if, ↓W_nil, ↓W_cons, ↓W_tup, ↓W_lst, ↓W_call, ↓W_callK, ↓W_noPart, ↓W_part, ↓W_sl, ↓W_meth, ↓W_asg, ↓W_name, ↓W_gnil, ↓W_gcons, ↓W_gseq, ↓W_gsub, ↓W_expr, ↓W_ret, ↓W_retN, ↓W_sif, ↓W_next, ↓W_brk, ↓W_cont, ↓W_sbad, ↓W_seq, ↓W_par2, ↓W_par3, ↓W_for, ↓W_lc, ↓W_yes, ↓W_iseq, ↓W_ienum, ↓W_rng1, ↓W_rng2, ↓W_while, ↓W_fun, ↓W_subD, ↓W_addI, ↓W_addS, ↓W_addT, ↓W_mulI, ↓W_fdiv, ↓W_mod, ↓W_neg, ↓W_ord, ↓W_isi, ↓W_is, ↓W_isnt, ↓W_lenT, ↓W_lenN, ↓W_intI, ↓W_intB, ↓W_abs, ↓W_max2, ↓W_min2, ↓W_divmod, ↓W_tupleT, ↓W_tupleN, ↓W_listT, ↓W_eqI, ↓W_neI, ↓W_eqB, ↓W_neB, ↓W_ix0, ↓W_ix1, ↓W_ix2, ↓its_new, ↓its_tup, ↓lst_new, En.pick, List.filterMap_cons, List.filterMap_nil, tyN, tyM, isT, truD, En.isNon, startE, wipeE, List.map_cons, List.map_nil, List.length_cons, List.length_nil, List.cons_append, List.nil_append, List.replicate_succ, List.replicate_zero, List.getElem?_cons_succ, List.getElem?_cons_zero, List.set_cons_succ, List.set_cons_zero, Nat.reduceSub, Nat.reduceAdd, Nat.zero_add, Nat.reduceLeDiff, Nat.sub_self, Bool.not_true, Bool.not_false, Bool.true_and, Bool.and_true, Bool.false_and, Bool.and_false, Bool.or_true, Bool.true_or, Bool.false_or, Bool.or_false, Bool.false_eq_true, if_true, if_false, ite_true, ite_false, true_and, and_true, decide_true, decide_false, String.reduceBEq, beq_self_eq_true, bne_self_eq_false, Bool.or_self, Bool.and_self, reduceCtorEq, Option.some.injEq, Bool.decide_eq_true, decide_eq_true_eq]
  refine ⟨by decide, ?_⟩
  rw [List.isEmpty_map]
  refine same_use (n := 8) (ok_mono (n := 6) ⟨by simp, fun x hx => ?_⟩ (by decide)) (by decide) fun S9 s9 => ?_
  · simp only [List.mem_cons, List.not_mem_nil, or_false] at hx
    rcases hx with rfl | rfl | rfl | rfl | rfl | rfl <;> first | exact okd | exact okl | trivial
  try simp only [↓W_sortSet, ↓W_slT, ↓W_var, ↓W_C, ↓W_bin, ↓W_un, ↓W_chain, ↓W_tru, ↓W_tst, ↓W_notT, ↓W_andT, ↓W_orT, ↓W_andV, ↓W_orV, ↓W_notV, ↓W_if, ↓W_nil, ↓W_cons, ↓W_tup, ↓W_lst, ↓W_call, ↓W_callK, ↓W_noPart, ↓W_part, ↓W_sl, ↓W_meth, ↓W_asg, ↓W_name, ↓W_gnil, ↓W_gcons, ↓W_gseq, ↓W_gsub, ↓W_expr, ↓W_ret, ↓W_retN, ↓W_sif, ↓W_next, ↓W_brk, ↓W_cont, ↓W_sbad, ↓W_seq, ↓W_par2, ↓W_par3, ↓W_for, ↓W_lc, ↓W_yes, ↓W_iseq, ↓W_ienum, ↓W_rng1, ↓W_rng2, ↓W_while, ↓W_fun, ↓W_subD, ↓W_addI, ↓W_addS, ↓W_addT, ↓W_mulI, ↓W_fdiv, ↓W_mod, ↓W_neg, ↓W_ord, ↓W_isi, ↓W_is, ↓W_isnt, ↓W_lenT, ↓W_lenN, ↓W_intI, ↓W_intB, ↓W_abs, ↓W_max2, ↓W_min2, ↓W_divmod, ↓W_tupleT, ↓W_tupleN, ↓W_listT, ↓W_eqI, ↓W_neI, ↓W_eqB, ↓W_neB, ↓W_ix0, ↓W_ix1, ↓W_ix2, ↓its_new, ↓its_tup, ↓lst_new, En.pick, List.filterMap_cons, List.filterMap_nil, tyN, tyM, isT, truD, En.isNon, startE, wipeE, List.map_cons, List.map_nil, List.length_cons, List.length_nil, List.cons_append, List.nil_append, List.replicate_succ, List.replicate_zero, List.getElem?_cons_succ, List.getElem?_cons_zero, List.set_cons_succ, List.set_cons_zero, Nat.reduceSub, Nat.reduceAdd, Nat.zero_add, Nat.reduceLeDiff, Nat.sub_self, Bool.not_true, Bool.not_false, Bool.true_and, Bool.and_true, Bool.false_and, Bool.and_false, Bool.or_true, Bool.true_or, Bool.false_or, Bool.or_false, Bool.false_eq_true, if_true, if_false, ite_true, ite_false, true_and, and_true, decide_true, decide_false, String.reduceBEq, beq_self_eq_true, bne_self_eq_false, Bool.or_self, Bool.and_self, reduceCtorEq, Option.some.injEq, Bool.decide_eq_true, decide_eq_true_eq]
  refine (needless_pu ll lo).use fun S10 s10 => ?_
  try simp only [↓W_sortSet, ↓W_slT, ↓W_var, ↓W_C, ↓W_bin, ↓W_un, ↓W_chain, ↓W_tru, ↓W_tst, ↓W_notT, ↓W_andT, ↓W_orT, ↓W_andV, ↓W_orV, ↓W_notV, ↓W_if, ↓W_nil, ↓W_cons, ↓W_tup, ↓W_lst, ↓W_call, ↓W_callK, ↓W_noPart, ↓W_part, ↓W_sl, ↓W_meth, ↓W_asg, ↓W_name, ↓W_gnil, ↓W_gcons, ↓W_gseq, ↓W_gsub, ↓W_expr, ↓W_ret, ↓W_retN, ↓W_sif, ↓W_next, ↓W_brk, ↓W_cont, ↓W_sbad, ↓W_seq, ↓W_par2, ↓W_par3, ↓W_for, ↓W_lc, ↓W_yes, ↓W_iseq, ↓W_ienum, ↓W_rng1, ↓W_rng2, ↓W_while, ↓W_fun, ↓W_subD, ↓W_addI, ↓W_addS, ↓W_addT, ↓W_mulI, ↓W_fdiv, ↓W_mod, ↓W_neg, ↓W_ord, ↓W_isi, ↓W_is, ↓W_isnt, ↓W_lenT, ↓W_lenN, ↓W_intI, ↓W_intB, ↓W_abs, ↓W_max2, ↓W_min2, ↓W_divmod, ↓W_tupleT, ↓W_tupleN, ↓W_listT, ↓W_eqI, ↓W_neI, ↓W_eqB, ↓W_neB, ↓W_ix0, ↓W_ix1, ↓W_ix2, ↓its_new, ↓its_tup, ↓lst_new, En.pick, List.filterMap_cons, List.filterMap_nil, tyN, tyM, isT, truD, En.isNon, startE, wipeE, List.map_cons, List.map_nil, List.length_cons, List.length_nil, List.cons_append, List.nil_append, List.replicate_succ, List.replicate_zero, List.getElem?_cons_succ, List.getElem?_cons_zero, List.set_cons_succ, List.set_cons_zero, Nat.reduceSub, Nat.reduceAdd, Nat.zero_add, Nat.reduceLeDiff, Nat.sub_self, Bool.not_true, Bool.not_false, Bool.true_and, Bool.and_true, Bool.false_and, Bool.and_false, Bool.or_true, Bool.true_or, Bool.false_or, Bool.or_false, Bool.false_eq_true, if_true, if_false, ite_true, ite_false, true_and, and_true, decide_true, decide_false, String.reduceBEq, beq_self_eq_true, bne_self_eq_false, Bool.or_self, Bool.and_self, reduceCtorEq, Option.some.injEq, Bool.decide_eq_true, decide_eq_true_eq]
  refine (is_lean_pu ll lo).use fun S11 s11 => ?_
  try simp only [↓W_sortSet, ↓W_slT, ↓W_var, ↓W_C, ↓W_bin, ↓W_un, ↓W_chain, ↓W_tru, ↓W_tst, ↓W_notT, ↓W_andT, ↓W_orT, ↓W_andV, ↓W_orV, ↓W_notV, ↓W_if, ↓W_nil, ↓W_cons, ↓W_tup, ↓W_lst, ↓W_call, ↓W_callK, ↓W_noPart, ↓W_part, ↓W_sl, ↓W_meth, ↓W_asg, ↓W_name, ↓W_gnil, ↓W_gcons, ↓W_gseq, ↓W_gsub, ↓W_expr, ↓W_ret, ↓W_retN, ↓W_sif, ↓W_next, ↓W_brk, ↓W_cont, ↓W_sbad, ↓W_seq, ↓W_par2, ↓W_par3, ↓W_for, ↓W_lc, ↓W_yes, ↓W_iseq, ↓W_ienum, ↓W_rng1, ↓W_rng2, ↓W_while, ↓W_fun, ↓W_subD, ↓W_addI, ↓W_addS, ↓W_addT, ↓W_mulI, ↓W_fdiv, ↓W_mod, ↓W_neg, ↓W_ord, ↓W_isi, ↓W_is, ↓W_isnt, ↓W_lenT, ↓W_lenN, ↓W_intI, ↓W_intB, ↓W_abs, ↓W_max2, ↓W_min2, ↓W_divmod, ↓W_tupleT, ↓W_tupleN, ↓W_listT, ↓W_eqI, ↓W_neI, ↓W_eqB, ↓W_neB, ↓W_ix0, ↓W_ix1, ↓W_ix2, ↓its_new, ↓its_tup, ↓lst_new, En.pick, List.filterMap_cons, List.filterMap_nil, tyN, tyM, isT, truD, En.isNon, startE, wipeE, List.map_cons, List.map_nil, List.length_cons, List.length_nil, List.cons_append, List.nil_append, List.replicate_succ, List.replicate_zero, List.getElem?_cons_succ, List.getElem?_cons_zero, List.set_cons_succ, List.set_cons_zero, Nat.reduceSub, Nat.reduceAdd, Nat.zero_add, Nat.reduceLeDiff, Nat.sub_self, Bool.not_true, Bool.not_false, Bool.true_and, Bool.and_true, Bool.false_and, Bool.and_false, Bool.or_true, Bool.true_or, Bool.false_or, Bool.or_false, Bool.false_eq_true, if_true, if_false, ite_true, ite_false, true_and, and_true, decide_true, decide_false, String.reduceBEq, beq_self_eq_true, bne_self_eq_false, Bool.or_self, Bool.and_self, reduceCtorEq, Option.some.injEq, Bool.decide_eq_true, decide_eq_true_eq]
  refine (leaned_pu ll lo).use fun S12 s12 => ?_
  try simp only [↓W_sortSet, ↓W_slT, ↓W_var, ↓W_C, ↓W_bin, ↓W_un, ↓W_chain, ↓W_tru, ↓W_tst, ↓W_notT, ↓W_andT, ↓W_orT, ↓W_andV, ↓W_orV, ↓W_notV, ↓W_if, ↓W_nil, ↓W_cons, ↓W_tup, ↓W_lst, ↓W_call, ↓W_callK, ↓W_noPart, ↓W_part, ↓W_sl, ↓W_meth, ↓W_asg, ↓W_name, ↓W_gnil, ↓W_gcons, ↓W_gseq, ↓W_gsub, ↓W_expr, ↓W_ret, ↓W_retN, ↓W_sif, ↓W_next, ↓W_brk, ↓W_cont, ↓W_sbad, ↓W_seq, ↓W_par2, ↓W_par3, ↓W_for, ↓W_lc, ↓W_yes, ↓W_iseq, ↓W_ienum, ↓W_rng1, ↓W_rng2, ↓W_while, ↓W_fun, ↓W_subD, ↓W_addI, ↓W_addS, ↓W_addT, ↓W_mulI, ↓W_fdiv, ↓W_mod, ↓W_neg, ↓W_ord, ↓W_isi, ↓W_is, ↓W_isnt, ↓W_lenT, ↓W_lenN, ↓W_intI, ↓W_intB, ↓W_abs, ↓W_max2, ↓W_min2, ↓W_divmod, ↓W_tupleT, ↓W_tupleN, ↓W_listT, ↓W_eqI, ↓W_neI, ↓W_eqB, ↓W_neB, ↓W_ix0, ↓W_ix1, ↓W_ix2, ↓its_new, ↓its_tup, ↓lst_new, En.pick, List.filterMap_cons, List.filterMap_nil, tyN, tyM, isT, truD, En.isNon, startE, wipeE, List.map_cons, List.map_nil, List.length_cons, List.length_nil, List.cons_append, List.nil_append, List.replicate_succ, List.replicate_zero, List.getElem?_cons_succ, List.getElem?_cons_zero, List.set_cons_succ, List.set_cons_zero, Nat.reduceSub, Nat.reduceAdd, Nat.zero_add, Nat.reduceLeDiff, Nat.sub_self, Bool.not_true, Bool.not_false, Bool.true_and, Bool.and_true, Bool.false_and, Bool.and_false, Bool.or_true, Bool.true_or, Bool.false_or, Bool.or_false, Bool.false_eq_true, if_true, if_false, ite_true, ite_false, true_and, and_true, decide_true, decide_false, String.reduceBEq, beq_self_eq_true, bne_self_eq_false, Bool.or_self, Bool.and_self, reduceCtorEq, Option.some.injEq, Bool.decide_eq_true, decide_eq_true_eq]
  refine (made_pu ll lo).use fun S13 s13 => ?_
  try simp only [↓W_sortSet, ↓W_slT, ↓W_var, ↓W_C, ↓W_bin, ↓W_un, ↓W_chain, ↓W_tru, ↓W_tst, ↓W_notT, ↓W_andT, ↓W_orT, ↓W_andV, ↓W_orV, ↓W_notV, ↓W_if, ↓W_nil, ↓W_cons, ↓W_tup, ↓W_lst, ↓W_call, ↓W_callK, ↓W_noPart, ↓W_part, ↓W_sl, ↓W_meth, ↓W_asg, ↓W_name, ↓W_gnil, ↓W_gcons, ↓W_gseq, ↓W_gsub, ↓W_expr, ↓W_ret, ↓W_retN, ↓W_sif, ↓W_next, ↓W_brk, ↓W_cont, ↓W_sbad, ↓W_seq, ↓W_par2, ↓W_par3, ↓W_for, ↓W_lc, ↓W_yes, ↓W_iseq, ↓W_ienum, ↓W_rng1, ↓W_rng2, ↓W_while, ↓W_fun, ↓W_subD, ↓W_addI, ↓W_addS, ↓W_addT, ↓W_mulI, ↓W_fdiv, ↓W_mod, ↓W_neg, ↓W_ord, ↓W_isi, ↓W_is, ↓W_isnt, ↓W_lenT, ↓W_lenN, ↓W_intI, ↓W_intB, ↓W_abs, ↓W_max2, ↓W_min2, ↓W_divmod, ↓W_tupleT, ↓W_tupleN, ↓W_listT, ↓W_eqI, ↓W_neI, ↓W_eqB, ↓W_neB, ↓W_ix0, ↓W_ix1, ↓W_ix2, ↓its_new, ↓its_tup, ↓lst_new, En.pick, List.filterMap_cons, List.filterMap_nil, tyN, tyM, isT, truD, En.isNon, startE, wipeE, List.map_cons, List.map_nil, List.length_cons, List.length_nil, List.cons_append, List.nil_append, List.replicate_succ, List.replicate_zero, List.getElem?_cons_succ, List.getElem?_cons_zero, List.set_cons_succ, List.set_cons_zero, Nat.reduceSub, Nat.reduceAdd, Nat.zero_add, Nat.reduceLeDiff, Nat.sub_self, Bool.not_true, Bool.not_false, Bool.true_and, Bool.and_true, Bool.false_and, Bool.and_false, Bool.or_true, Bool.true_or, Bool.false_or, Bool.or_false, Bool.false_eq_true, if_true, if_false, ite_true, ite_false, true_and, and_true, decide_true, decide_false, String.reduceBEq, beq_self_eq_true, bne_self_eq_false, Bool.or_self, Bool.and_self, reduceCtorEq, Option.some.injEq, Bool.decide_eq_true, decide_eq_true_eq]
  refine (is_row_pu ll).use fun S14 s14 => ?_
  try simp only [↓W_sortSet, ↓W_slT, ↓W_var, ↓W_C, ↓W_bin, ↓W_un, ↓W_chain, ↓W_tru, ↓W_tst, ↓W_notT, ↓W_andT, ↓W_orT, ↓W_andV, ↓W_orV, ↓W_notV, ↓W_if, ↓W_nil, ↓W_cons, ↓W_tup, ↓W_lst, ↓W_call, ↓W_callK, ↓W_noPart, ↓W_part, ↓W_sl, ↓W_meth, ↓W_asg, ↓W_name, ↓W_gnil, ↓W_gcons, ↓W_gseq, ↓W_gsub, ↓W_expr, ↓W_ret, ↓W_retN, ↓W_sif, ↓W_next, ↓W_brk, ↓W_cont, ↓W_sbad, ↓W_seq, ↓W_par2, ↓W_par3, ↓W_for, ↓W_lc, ↓W_yes, ↓W_iseq, ↓W_ienum, ↓W_rng1, ↓W_rng2, ↓W_while, ↓W_fun, ↓W_subD, ↓W_addI, ↓W_addS, ↓W_addT, ↓W_mulI, ↓W_fdiv, ↓W_mod, ↓W_neg, ↓W_ord, ↓W_isi, ↓W_is, ↓W_isnt, ↓W_lenT, ↓W_lenN, ↓W_intI, ↓W_intB, ↓W_abs, ↓W_max2, ↓W_min2, ↓W_divmod, ↓W_tupleT, ↓W_tupleN, ↓W_listT, ↓W_eqI, ↓W_neI, ↓W_eqB, ↓W_neB, ↓W_ix0, ↓W_ix1, ↓W_ix2, ↓its_new, ↓its_tup, ↓lst_new, En.pick, List.filterMap_cons, List.filterMap_nil, tyN, tyM, isT, truD, En.isNon, startE, wipeE, List.map_cons, List.map_nil, List.length_cons, List.length_nil, List.cons_append, List.nil_append, List.replicate_succ, List.replicate_zero, List.getElem?_cons_succ, List.getElem?_cons_zero, List.set_cons_succ, List.set_cons_zero, Nat.reduceSub, Nat.reduceAdd, Nat.zero_add, Nat.reduceLeDiff, Nat.sub_self, Bool.not_true, Bool.not_false, Bool.true_and, Bool.and_true, Bool.false_and, Bool.and_false, Bool.or_true, Bool.true_or, Bool.false_or, Bool.or_false, Bool.false_eq_true, if_true, if_false, ite_true, ite_false, true_and, and_true, decide_true, decide_false, String.reduceBEq, beq_self_eq_true, bne_self_eq_false, Bool.or_self, Bool.and_self, reduceCtorEq, Option.some.injEq, Bool.decide_eq_true, decide_eq_true_eq]
  refine ⟨by decide, Nat.zero_le _, ?_⟩
  refine (made_pu hl h).use fun S15 s15 => ?_
  try simp only [↓W_sortSet, ↓W_slT, ↓W_var, ↓W_C, ↓W_bin, ↓W_un, ↓W_chain, ↓W_tru, ↓W_tst, ↓W_notT, ↓W_andT, ↓W_orT, ↓W_andV, ↓W_orV, ↓W_notV, ↓W_if, ↓W_nil, ↓W_cons, ↓W_tup, ↓W_lst, ↓W_call, ↓W_callK, ↓W_noPart, ↓W_part, ↓W_sl, ↓W_meth, ↓W_asg, ↓W_name, ↓W_gnil, ↓W_gcons, ↓W_gseq, ↓W_gsub, ↓W_expr, ↓W_ret, ↓W_retN, ↓W_sif, ↓W_next, ↓W_brk, ↓W_cont, ↓W_sbad, ↓W_seq, ↓W_par2, ↓W_par3, ↓W_for, ↓W_lc, ↓W_yes, ↓W_iseq, ↓W_ienum, ↓W_rng1, ↓W_rng2, ↓W_while, ↓W_fun, ↓W_subD, ↓W_addI, ↓W_addS, ↓W_addT, ↓W_mulI, ↓W_fdiv, ↓W_mod, ↓W_neg, ↓W_ord, ↓W_isi, ↓W_is, ↓W_isnt, ↓W_lenT, ↓W_lenN, ↓W_intI, ↓W_intB, ↓W_abs, ↓W_max2, ↓W_min2, ↓W_divmod, ↓W_tupleT, ↓W_tupleN, ↓W_listT, ↓W_eqI, ↓W_neI, ↓W_eqB, ↓W_neB, ↓W_ix0, ↓W_ix1, ↓W_ix2, ↓its_new, ↓its_tup, ↓lst_new, En.pick, List.filterMap_cons, List.filterMap_nil, tyN, tyM, isT, truD, En.isNon, startE, wipeE, List.map_cons, List.map_nil, List.length_cons, List.length_nil, List.cons_append, List.nil_append, List.replicate_succ, List.replicate_zero, List.getElem?_cons_succ, List.getElem?_cons_zero, List.set_cons_succ, List.set_cons_zero, Nat.reduceSub, Nat.reduceAdd, Nat.zero_add, Nat.reduceLeDiff, Nat.sub_self, Bool.not_true, Bool.not_false, Bool.true_and, Bool.and_true, Bool.false_and, Bool.and_false, Bool.or_true, Bool.true_or, Bool.false_or, Bool.or_false, Bool.false_eq_true, if_true, if_false, ite_true, ite_false, true_and, and_true, decide_true, decide_false, String.reduceBEq, beq_self_eq_true, bne_self_eq_false, Bool.or_self, Bool.and_self, reduceCtorEq, Option.some.injEq, Bool.decide_eq_true, decide_eq_true_eq]
  refine ⟨by decide, ?_⟩
  rw [ln, lo, lean_last 900 l, show lean (lean l) = lean l from leanN_nil ln]
  simp only [List.map_nil, List.isEmpty_nil]
  refine same_use (n := 8) (ok_mono (n := 6) ⟨by simp, fun x hx => ?_⟩ (by decide)) (by decide) fun S16 s16 => ?_
  · simp only [List.mem_cons, List.not_mem_nil, or_false] at hx
    rcases hx with rfl | rfl | rfl | rfl | rfl
    · exact ⟨by simp, by intro x hx; cases hx⟩
    · trivial
    · exact okl
    · trivial
    · trivial
  simp only [tupI, ↓W_sortSet, ↓W_slT, ↓W_var, ↓W_C, ↓W_bin, ↓W_un, ↓W_chain, ↓W_tru, ↓W_tst, ↓W_notT, ↓W_andT, ↓W_orT, ↓W_andV, ↓W_orV, ↓W_notV, ↓W_if, ↓W_nil, ↓W_cons, ↓W_tup, ↓W_lst, ↓W_call, ↓W_callK, ↓W_noPart, ↓W_part, ↓W_sl, ↓W_meth, ↓W_asg, ↓W_name, ↓W_gnil, ↓W_gcons, ↓W_gseq, ↓W_gsub, ↓W_expr, ↓W_ret, ↓W_retN, ↓W_sif, ↓W_next, ↓W_brk, ↓W_cont, ↓W_sbad, ↓W_seq, ↓W_par2, ↓W_par3, ↓W_for, ↓W_lc, ↓W_yes, ↓W_iseq, ↓W_ienum, ↓W_rng1, ↓W_rng2, ↓W_while, ↓W_fun, ↓W_subD, ↓W_addI, ↓W_addS, ↓W_addT, ↓W_mulI, ↓W_fdiv, ↓W_mod, ↓W_neg, ↓W_ord, ↓W_isi, ↓W_is, ↓W_isnt, ↓W_lenT, ↓W_lenN, ↓W_intI, ↓W_intB, ↓W_abs, ↓W_max2, ↓W_min2, ↓W_divmod, ↓W_tupleT, ↓W_tupleN, ↓W_listT, ↓W_eqI, ↓W_neI, ↓W_eqB, ↓W_neB, ↓W_ix0, ↓W_ix1, ↓W_ix2, ↓its_new, ↓its_tup, ↓lst_new, En.pick, List.filterMap_cons, List.filterMap_nil, tyN, tyM, isT, truD, En.isNon, startE, wipeE, List.map_cons, List.map_nil, List.length_cons, List.length_nil, List.cons_append, List.nil_append, List.replicate_succ, List.replicate_zero, List.getElem?_cons_succ, List.getElem?_cons_zero, List.set_cons_succ, List.set_cons_zero, Nat.reduceSub, Nat.reduceAdd, Nat.zero_add, Nat.reduceLeDiff, Nat.sub_self, Bool.not_true, Bool.not_false, Bool.true_and, Bool.and_true, Bool.false_and, Bool.and_false, Bool.or_true, Bool.true_or, Bool.false_or, Bool.or_false, Bool.false_eq_true, if_true, if_false, ite_true, ite_false, true_and, and_true, decide_true, decide_false, String.reduceBEq, beq_self_eq_true, bne_self_eq_false, Bool.or_self, Bool.and_self, reduceCtorEq, Option.some.injEq, Bool.decide_eq_true, decide_eq_true_eq, List.length_map]
  refine ⟨by omega, ?_⟩
  rw [rng2 (n := l.length) rfl]
  refine W_lcP (c := fun i : Nat => D.int (i : Int)) (p := fun _ => false) (v := fun _ => .non) rfl (fun i hi S17 s17 => ?_) fun S17 s17 => ?_
  · have hi := List.mem_range'_1.mp hi
    have hil : i < l.length := by omega
    try simp only [↓W_sortSet, ↓W_slT, ↓W_var, ↓W_C, ↓W_bin, ↓W_un, ↓W_chain, ↓W_tru, ↓W_tst, ↓W_notT, ↓W_andT, ↓W_orT, ↓W_andV, ↓W_orV, ↓W_notV, ↓W_if, ↓W_nil, ↓W_cons, ↓W_tup, ↓W_lst, ↓W_call, ↓W_callK, ↓W_noPart, ↓W_part, ↓W_sl, ↓W_meth, ↓W_asg, ↓W_name, ↓W_gnil, ↓W_gcons, ↓W_gseq, ↓W_gsub, ↓W_expr, ↓W_ret, ↓W_retN, ↓W_sif, ↓W_next, ↓W_brk, ↓W_cont, ↓W_sbad, ↓W_seq, ↓W_par2, ↓W_par3, ↓W_for, ↓W_lc, ↓W_yes, ↓W_iseq, ↓W_ienum, ↓W_rng1, ↓W_rng2, ↓W_while, ↓W_fun, ↓W_subD, ↓W_addI, ↓W_addS, ↓W_addT, ↓W_mulI, ↓W_fdiv, ↓W_mod, ↓W_neg, ↓W_ord, ↓W_isi, ↓W_is, ↓W_isnt, ↓W_lenT, ↓W_lenN, ↓W_intI, ↓W_intB, ↓W_abs, ↓W_max2, ↓W_min2, ↓W_divmod, ↓W_tupleT, ↓W_tupleN, ↓W_listT, ↓W_eqI, ↓W_neI, ↓W_eqB, ↓W_neB, ↓W_ix0, ↓W_ix1, ↓W_ix2, ↓its_new, ↓its_tup, ↓lst_new, En.pick, List.filterMap_cons, List.filterMap_nil, tyN, tyM, isT, truD, En.isNon, startE, wipeE, List.map_cons, List.map_nil, List.length_cons, List.length_nil, List.cons_append, List.nil_append, List.replicate_succ, List.replicate_zero, List.getElem?_cons_succ, List.getElem?_cons_zero, List.set_cons_succ, List.set_cons_zero, Nat.reduceSub, Nat.reduceAdd, Nat.zero_add, Nat.reduceLeDiff, Nat.sub_self, Bool.not_true, Bool.not_false, Bool.true_and, Bool.and_true, Bool.false_and, Bool.and_false, Bool.or_true, Bool.true_or, Bool.false_or, Bool.or_false, Bool.false_eq_true, if_true, if_false, ite_true, ite_false, true_and, and_true, decide_true, decide_false, String.reduceBEq, beq_self_eq_true, bne_self_eq_false, Bool.or_self, Bool.and_self, reduceCtorEq, Option.some.injEq, Bool.decide_eq_true, decide_eq_true_eq]
    refine ⟨le_lim (by have := @cut_len' (l.map D.int) none (some (i : Int)); have := @cut_len' (l.map D.int) (some ((i : Int) + 1)) none; rw [List.length_map] at *; omega), ?_⟩
    rw [cut_tup hil]
    refine (is_row_pu (by rw [drop1_len hil]; omega)).use fun S18 s18 => ?_
    try simp only [↓W_sortSet, ↓W_slT, ↓W_var, ↓W_C, ↓W_bin, ↓W_un, ↓W_chain, ↓W_tru, ↓W_tst, ↓W_notT, ↓W_andT, ↓W_orT, ↓W_andV, ↓W_orV, ↓W_notV, ↓W_if, ↓W_nil, ↓W_cons, ↓W_tup, ↓W_lst, ↓W_call, ↓W_callK, ↓W_noPart, ↓W_part, ↓W_sl, ↓W_meth, ↓W_asg, ↓W_name, ↓W_gnil, ↓W_gcons, ↓W_gseq, ↓W_gsub, ↓W_expr, ↓W_ret, ↓W_retN, ↓W_sif, ↓W_next, ↓W_brk, ↓W_cont, ↓W_sbad, ↓W_seq, ↓W_par2, ↓W_par3, ↓W_for, ↓W_lc, ↓W_yes, ↓W_iseq, ↓W_ienum, ↓W_rng1, ↓W_rng2, ↓W_while, ↓W_fun, ↓W_subD, ↓W_addI, ↓W_addS, ↓W_addT, ↓W_mulI, ↓W_fdiv, ↓W_mod, ↓W_neg, ↓W_ord, ↓W_isi, ↓W_is, ↓W_isnt, ↓W_lenT, ↓W_lenN, ↓W_intI, ↓W_intB, ↓W_abs, ↓W_max2, ↓W_min2, ↓W_divmod, ↓W_tupleT, ↓W_tupleN, ↓W_listT, ↓W_eqI, ↓W_neI, ↓W_eqB, ↓W_neB, ↓W_ix0, ↓W_ix1, ↓W_ix2, ↓its_new, ↓its_tup, ↓lst_new, En.pick, List.filterMap_cons, List.filterMap_nil, tyN, tyM, isT, truD, En.isNon, startE, wipeE, List.map_cons, List.map_nil, List.length_cons, List.length_nil, List.cons_append, List.nil_append, List.replicate_succ, List.replicate_zero, List.getElem?_cons_succ, List.getElem?_cons_zero, List.set_cons_succ, List.set_cons_zero, Nat.reduceSub, Nat.reduceAdd, Nat.zero_add, Nat.reduceLeDiff, Nat.sub_self, Bool.not_true, Bool.not_false, Bool.true_and, Bool.and_true, Bool.false_and, Bool.and_false, Bool.or_true, Bool.true_or, Bool.false_or, Bool.or_false, Bool.false_eq_true, if_true, if_false, ite_true, ite_false, true_and, and_true, decide_true, decide_false, String.reduceBEq, beq_self_eq_true, bne_self_eq_false, Bool.or_self, Bool.and_self, reduceCtorEq, Option.some.injEq, Bool.decide_eq_true, decide_eq_true_eq]
    rw [nat_int, W_inI, cont_nat, nee_iff (by omega) (by omega)]
    try simp only [↓W_sortSet, ↓W_slT, ↓W_var, ↓W_C, ↓W_bin, ↓W_un, ↓W_chain, ↓W_tru, ↓W_tst, ↓W_notT, ↓W_andT, ↓W_orT, ↓W_andV, ↓W_orV, ↓W_notV, ↓W_if, ↓W_nil, ↓W_cons, ↓W_tup, ↓W_lst, ↓W_call, ↓W_callK, ↓W_noPart, ↓W_part, ↓W_sl, ↓W_meth, ↓W_asg, ↓W_name, ↓W_gnil, ↓W_gcons, ↓W_gseq, ↓W_gsub, ↓W_expr, ↓W_ret, ↓W_retN, ↓W_sif, ↓W_next, ↓W_brk, ↓W_cont, ↓W_sbad, ↓W_seq, ↓W_par2, ↓W_par3, ↓W_for, ↓W_lc, ↓W_yes, ↓W_iseq, ↓W_ienum, ↓W_rng1, ↓W_rng2, ↓W_while, ↓W_fun, ↓W_subD, ↓W_addI, ↓W_addS, ↓W_addT, ↓W_mulI, ↓W_fdiv, ↓W_mod, ↓W_neg, ↓W_ord, ↓W_isi, ↓W_is, ↓W_isnt, ↓W_lenT, ↓W_lenN, ↓W_intI, ↓W_intB, ↓W_abs, ↓W_max2, ↓W_min2, ↓W_divmod, ↓W_tupleT, ↓W_tupleN, ↓W_listT, ↓W_eqI, ↓W_neI, ↓W_eqB, ↓W_neB, ↓W_ix0, ↓W_ix1, ↓W_ix2, ↓its_new, ↓its_tup, ↓lst_new, En.pick, List.filterMap_cons, List.filterMap_nil, tyN, tyM, isT, truD, En.isNon, startE, wipeE, List.map_cons, List.map_nil, List.length_cons, List.length_nil, List.cons_append, List.nil_append, List.replicate_succ, List.replicate_zero, List.getElem?_cons_succ, List.getElem?_cons_zero, List.set_cons_succ, List.set_cons_zero, Nat.reduceSub, Nat.reduceAdd, Nat.zero_add, Nat.reduceLeDiff, Nat.sub_self, Bool.not_true, Bool.not_false, Bool.true_and, Bool.and_true, Bool.false_and, Bool.and_false, Bool.or_true, Bool.true_or, Bool.false_or, Bool.or_false, Bool.false_eq_true, if_true, if_false, ite_true, ite_false, true_and, and_true, decide_true, decide_false, String.reduceBEq, beq_self_eq_true, bne_self_eq_false, Bool.or_self, Bool.and_self, reduceCtorEq, Option.some.injEq, Bool.decide_eq_true, decide_eq_true_eq]
    first | exact s18 | (cases rowOk (drop1 l i) <;> first | exact s18 | (simp only [↓W_sortSet, ↓W_slT, ↓W_var, ↓W_C, ↓W_bin, ↓W_un, ↓W_chain, ↓W_tru, ↓W_tst, ↓W_notT, ↓W_andT, ↓W_orT, ↓W_andV, ↓W_orV, ↓W_notV, ↓W_if, ↓W_nil, ↓W_cons, ↓W_tup, ↓W_lst, ↓W_call, ↓W_callK, ↓W_noPart, ↓W_part, ↓W_sl, ↓W_meth, ↓W_asg, ↓W_name, ↓W_gnil, ↓W_gcons, ↓W_gseq, ↓W_gsub, ↓W_expr, ↓W_ret, ↓W_retN, ↓W_sif, ↓W_next, ↓W_brk, ↓W_cont, ↓W_sbad, ↓W_seq, ↓W_par2, ↓W_par3, ↓W_for, ↓W_lc, ↓W_yes, ↓W_iseq, ↓W_ienum, ↓W_rng1, ↓W_rng2, ↓W_while, ↓W_fun, ↓W_subD, ↓W_addI, ↓W_addS, ↓W_addT, ↓W_mulI, ↓W_fdiv, ↓W_mod, ↓W_neg, ↓W_ord, ↓W_isi, ↓W_is, ↓W_isnt, ↓W_lenT, ↓W_lenN, ↓W_intI, ↓W_intB, ↓W_abs, ↓W_max2, ↓W_min2, ↓W_divmod, ↓W_tupleT, ↓W_tupleN, ↓W_listT, ↓W_eqI, ↓W_neI, ↓W_eqB, ↓W_neB, ↓W_ix0, ↓W_ix1, ↓W_ix2, ↓its_new, ↓its_tup, ↓lst_new, En.pick, List.filterMap_cons, List.filterMap_nil, tyN, tyM, isT, truD, En.isNon, startE, wipeE, List.map_cons, List.map_nil, List.length_cons, List.length_nil, List.cons_append, List.nil_append, List.replicate_succ, List.replicate_zero, List.getElem?_cons_succ, List.getElem?_cons_zero, List.set_cons_succ, List.set_cons_zero, Nat.reduceSub, Nat.reduceAdd, Nat.zero_add, Nat.reduceLeDiff, Nat.sub_self, Bool.not_true, Bool.not_false, Bool.true_and, Bool.and_true, Bool.false_and, Bool.and_false, Bool.or_true, Bool.true_or, Bool.false_or, Bool.or_false, Bool.false_eq_true, if_true, if_false, ite_true, ite_false, true_and, and_true, decide_true, decide_false, String.reduceBEq, beq_self_eq_true, bne_self_eq_false, Bool.or_self, Bool.and_self, reduceCtorEq, Option.some.injEq, Bool.decide_eq_true, decide_eq_true_eq]; exact s18))
  · rw [List.filter_eq_nil_iff.mpr (fun _ _ => Bool.false_ne_true), List.map_nil]
    refine ⟨Nat.zero_le _, Nat.zero_le _, ?_⟩
    rw [W_emptyEq (xs := []) (Sub.app _ _ at_new) at_new (by intro x hx; cases hx)]
    simp only [List.isEmpty_nil, ↓W_sortSet, ↓W_slT, ↓W_var, ↓W_C, ↓W_bin, ↓W_un, ↓W_chain, ↓W_tru, ↓W_tst, ↓W_notT, ↓W_andT, ↓W_orT, ↓W_andV, ↓W_orV, ↓W_notV, ↓W_if, ↓W_nil, ↓W_cons, ↓W_tup, ↓W_lst, ↓W_call, ↓W_callK, ↓W_noPart, ↓W_part, ↓W_sl, ↓W_meth, ↓W_asg, ↓W_name, ↓W_gnil, ↓W_gcons, ↓W_gseq, ↓W_gsub, ↓W_expr, ↓W_ret, ↓W_retN, ↓W_sif, ↓W_next, ↓W_brk, ↓W_cont, ↓W_sbad, ↓W_seq, ↓W_par2, ↓W_par3, ↓W_for, ↓W_lc, ↓W_yes, ↓W_iseq, ↓W_ienum, ↓W_rng1, ↓W_rng2, ↓W_while, ↓W_fun, ↓W_subD, ↓W_addI, ↓W_addS, ↓W_addT, ↓W_mulI, ↓W_fdiv, ↓W_mod, ↓W_neg, ↓W_ord, ↓W_isi, ↓W_is, ↓W_isnt, ↓W_lenT, ↓W_lenN, ↓W_intI, ↓W_intB, ↓W_abs, ↓W_max2, ↓W_min2, ↓W_divmod, ↓W_tupleT, ↓W_tupleN, ↓W_listT, ↓W_eqI, ↓W_neI, ↓W_eqB, ↓W_neB, ↓W_ix0, ↓W_ix1, ↓W_ix2, ↓its_new, ↓its_tup, ↓lst_new, En.pick, List.filterMap_cons, List.filterMap_nil, tyN, tyM, isT, truD, En.isNon, startE, wipeE, List.map_cons, List.map_nil, List.length_cons, List.length_nil, List.cons_append, List.nil_append, List.replicate_succ, List.replicate_zero, List.getElem?_cons_succ, List.getElem?_cons_zero, List.set_cons_succ, List.set_cons_zero, Nat.reduceSub, Nat.reduceAdd, Nat.zero_add, Nat.reduceLeDiff, Nat.sub_self, Bool.not_true, Bool.not_false, Bool.true_and, Bool.and_true, Bool.false_and, Bool.and_false, Bool.or_true, Bool.true_or, Bool.false_or, Bool.or_false, Bool.false_eq_true, if_true, if_false, ite_true, ite_false, true_and, and_true, decide_true, decide_false, String.reduceBEq, beq_self_eq_true, bne_self_eq_false, Bool.or_self, Bool.and_self, reduceCtorEq, Option.some.injEq, Bool.decide_eq_true, decide_eq_true_eq]
    rw [nat_int, show (D.int 0) = .int ((0 : Nat) : Int) from rfl, W_notInI, cont_nat]
    have n0 : decide (0 ∈ needless l) = false := by
      rw [decide_eq_false_iff_not]; intro hm; have := nee_mem hm; omega
    simp only [n0, ↓W_sortSet, ↓W_slT, ↓W_var, ↓W_C, ↓W_bin, ↓W_un, ↓W_chain, ↓W_tru, ↓W_tst, ↓W_notT, ↓W_andT, ↓W_orT, ↓W_andV, ↓W_orV, ↓W_notV, ↓W_if, ↓W_nil, ↓W_cons, ↓W_tup, ↓W_lst, ↓W_call, ↓W_callK, ↓W_noPart, ↓W_part, ↓W_sl, ↓W_meth, ↓W_asg, ↓W_name, ↓W_gnil, ↓W_gcons, ↓W_gseq, ↓W_gsub, ↓W_expr, ↓W_ret, ↓W_retN, ↓W_sif, ↓W_next, ↓W_brk, ↓W_cont, ↓W_sbad, ↓W_seq, ↓W_par2, ↓W_par3, ↓W_for, ↓W_lc, ↓W_yes, ↓W_iseq, ↓W_ienum, ↓W_rng1, ↓W_rng2, ↓W_while, ↓W_fun, ↓W_subD, ↓W_addI, ↓W_addS, ↓W_addT, ↓W_mulI, ↓W_fdiv, ↓W_mod, ↓W_neg, ↓W_ord, ↓W_isi, ↓W_is, ↓W_isnt, ↓W_lenT, ↓W_lenN, ↓W_intI, ↓W_intB, ↓W_abs, ↓W_max2, ↓W_min2, ↓W_divmod, ↓W_tupleT, ↓W_tupleN, ↓W_listT, ↓W_eqI, ↓W_neI, ↓W_eqB, ↓W_neB, ↓W_ix0, ↓W_ix1, ↓W_ix2, ↓its_new, ↓its_tup, ↓lst_new, En.pick, List.filterMap_cons, List.filterMap_nil, tyN, tyM, isT, truD, En.isNon, startE, wipeE, List.map_cons, List.map_nil, List.length_cons, List.length_nil, List.cons_append, List.nil_append, List.replicate_succ, List.replicate_zero, List.getElem?_cons_succ, List.getElem?_cons_zero, List.set_cons_succ, List.set_cons_zero, Nat.reduceSub, Nat.reduceAdd, Nat.zero_add, Nat.reduceLeDiff, Nat.sub_self, Bool.not_true, Bool.not_false, Bool.true_and, Bool.and_true, Bool.false_and, Bool.and_false, Bool.or_true, Bool.true_or, Bool.false_or, Bool.or_false, Bool.false_eq_true, if_true, if_false, ite_true, ite_false, true_and, and_true, decide_true, decide_false, String.reduceBEq, beq_self_eq_true, bne_self_eq_false, Bool.or_self, Bool.and_self, reduceCtorEq, Option.some.injEq, Bool.decide_eq_true, decide_eq_true_eq]
    rw [show ((l.length : Int) - 1) = ((l.length - 1 : Nat) : Int) from by omega, W_notInI, cont_nat]
    have n1 : decide (l.length - 1 ∈ needless l) = false := by
      rw [decide_eq_false_iff_not]; intro hm; have := nee_mem hm; omega
    simp only [n1, ↓W_sortSet, ↓W_slT, ↓W_var, ↓W_C, ↓W_bin, ↓W_un, ↓W_chain, ↓W_tru, ↓W_tst, ↓W_notT, ↓W_andT, ↓W_orT, ↓W_andV, ↓W_orV, ↓W_notV, ↓W_if, ↓W_nil, ↓W_cons, ↓W_tup, ↓W_lst, ↓W_call, ↓W_callK, ↓W_noPart, ↓W_part, ↓W_sl, ↓W_meth, ↓W_asg, ↓W_name, ↓W_gnil, ↓W_gcons, ↓W_gseq, ↓W_gsub, ↓W_expr, ↓W_ret, ↓W_retN, ↓W_sif, ↓W_next, ↓W_brk, ↓W_cont, ↓W_sbad, ↓W_seq, ↓W_par2, ↓W_par3, ↓W_for, ↓W_lc, ↓W_yes, ↓W_iseq, ↓W_ienum, ↓W_rng1, ↓W_rng2, ↓W_while, ↓W_fun, ↓W_subD, ↓W_addI, ↓W_addS, ↓W_addT, ↓W_mulI, ↓W_fdiv, ↓W_mod, ↓W_neg, ↓W_ord, ↓W_isi, ↓W_is, ↓W_isnt, ↓W_lenT, ↓W_lenN, ↓W_intI, ↓W_intB, ↓W_abs, ↓W_max2, ↓W_min2, ↓W_divmod, ↓W_tupleT, ↓W_tupleN, ↓W_listT, ↓W_eqI, ↓W_neI, ↓W_eqB, ↓W_neB, ↓W_ix0, ↓W_ix1, ↓W_ix2, ↓its_new, ↓its_tup, ↓lst_new, En.pick, List.filterMap_cons, List.filterMap_nil, tyN, tyM, isT, truD, En.isNon, startE, wipeE, List.map_cons, List.map_nil, List.length_cons, List.length_nil, List.cons_append, List.nil_append, List.replicate_succ, List.replicate_zero, List.getElem?_cons_succ, List.getElem?_cons_zero, List.set_cons_succ, List.set_cons_zero, Nat.reduceSub, Nat.reduceAdd, Nat.zero_add, Nat.reduceLeDiff, Nat.sub_self, Bool.not_true, Bool.not_false, Bool.true_and, Bool.and_true, Bool.false_and, Bool.and_false, Bool.or_true, Bool.true_or, Bool.false_or, Bool.or_false, Bool.false_eq_true, if_true, if_false, ite_true, ite_false, true_and, and_true, decide_true, decide_false, String.reduceBEq, beq_self_eq_true, bne_self_eq_false, Bool.or_self, Bool.and_self, reduceCtorEq, Option.some.injEq, Bool.decide_eq_true, decide_eq_true_eq]
    have sa := s1.trans (s2.trans (s3.trans (s4.trans (s5.trans (s6.trans (s7.trans (s8.trans (s9.trans (s10.trans (s11.trans (s12.trans (s13.trans (s14.trans (s15.trans (s16.trans s17)))))))))))))))
    exact sa.new.new
end L_k07
namespace L_k07
open PySem L2 En
def pairD (z : Nat × Nat) : D := .tup [natD z.1, natD z.2]
def step (v : List Int) (z : Nat × Nat) : List Int := v ++ [at' v z.1 + at' v z.2]
def rowGo : List (Nat × Nat) → List Int → List Int
  | [], v => v
  | z :: r, v => rowGo r (step v z)
def rowBy (ps : List (Nat × Nat)) : List Int := rowGo ps [1]
theorem rowGo_len : ∀ (ps : List (Nat × Nat)) (v : List Int), (rowGo ps v).length = v.length + ps.length
  | [], v => rfl
  | z :: r, v => by rw [rowGo, rowGo_len r]; unfold step; simp; omega
theorem rowBy_len {ps : List (Nat × Nat)} : (rowBy ps).length = 1 + ps.length := by unfold rowBy; rw [rowGo_len]; rfl
def Plan (n : Nat) (ps : List (Nat × Nat)) : Prop := ∀ k a c, ps[k]? = some (a, c) → a < n + k ∧ c < n + k
theorem Plan.tail {n : Nat} {z : Nat × Nat} {r : List (Nat × Nat)} (h : Plan n (z :: r)) : Plan (n + 1) r := fun k a b e => by
  have := h (k + 1) a b (by simpa using e)
  omega
theorem Plan.head {n : Nat} {z : Nat × Nat} {r : List (Nat × Nat)} (h : Plan n (z :: r)) : z.1 < n ∧ z.2 < n := by
  have := h 0 z.1 z.2 rfl
  omega
theorem Plan.snoc {n a b : Nat} {ps : List (Nat × Nat)} (h : Plan n ps) (h1 : a < n + ps.length) (h2 : b < n + ps.length) : Plan n (ps ++ [(a, b)]) := fun k x y e => by
  by_cases hk : k < ps.length
  · rw [List.getElem?_append_left hk] at e
    exact h k x y e
  · have := (List.getElem?_eq_some_iff.mp e).1
    simp at this
    have : k = ps.length := by omega
    subst this
    simp at e
    obtain ⟨rfl, rfl⟩ := e
    exact ⟨h1, h2⟩
theorem row_by_pu {ps : List (Nat × Nat)} (hp : Plan 1 ps) (hl : ps.length ≤ 800) : Pu m__law_row_by [.tup (ps.map pairD)] (tupI (rowBy ps)) := fun S => by
  simp only [m__law_row_by, ↓W_sortSet, ↓W_slT, ↓W_var, ↓W_C, ↓W_bin, ↓W_un, ↓W_chain, ↓W_tru, ↓W_tst, ↓W_notT, ↓W_andT, ↓W_orT, ↓W_andV, ↓W_orV, ↓W_notV, ↓W_if, ↓W_nil, ↓W_cons, ↓W_tup, ↓W_lst, ↓W_call, ↓W_callK, ↓W_noPart, ↓W_part, ↓W_sl, ↓W_meth, ↓W_asg, ↓W_name, ↓W_gnil, ↓W_gcons, ↓W_gseq, ↓W_gsub, ↓W_expr, ↓W_ret, ↓W_retN, ↓W_sif, ↓W_next, ↓W_brk, ↓W_cont, ↓W_sbad, ↓W_seq, ↓W_par2, ↓W_par3, ↓W_for, ↓W_lc, ↓W_yes, ↓W_iseq, ↓W_ienum, ↓W_rng1, ↓W_rng2, ↓W_while, ↓W_fun, ↓W_subD, ↓W_addI, ↓W_addS, ↓W_addT, ↓W_mulI, ↓W_fdiv, ↓W_mod, ↓W_neg, ↓W_ord, ↓W_isi, ↓W_is, ↓W_isnt, ↓W_lenT, ↓W_lenN, ↓W_intI, ↓W_intB, ↓W_abs, ↓W_max2, ↓W_min2, ↓W_divmod, ↓W_tupleT, ↓W_tupleN, ↓W_listT, ↓W_eqI, ↓W_neI, ↓W_eqB, ↓W_neB, ↓W_ix0, ↓W_ix1, ↓W_ix2, ↓its_new, ↓its_tup, ↓lst_new, En.pick, List.filterMap_cons, List.filterMap_nil, tyN, tyM, isT, truD, En.isNon, startE, wipeE, List.map_cons, List.map_nil, List.length_cons, List.length_nil, List.cons_append, List.nil_append, List.replicate_succ, List.replicate_zero, List.getElem?_cons_succ, List.getElem?_cons_zero, List.set_cons_succ, List.set_cons_zero, Nat.reduceSub, Nat.reduceAdd, Nat.zero_add, Nat.reduceLeDiff, Nat.sub_self, Bool.not_true, Bool.not_false, Bool.true_and, Bool.and_true, Bool.false_and, Bool.and_false, Bool.or_true, Bool.true_or, Bool.false_or, Bool.or_false, Bool.false_eq_true, if_true, if_false, ite_true, ite_false, true_and, and_true, decide_true, decide_false, String.reduceBEq, beq_self_eq_true, bne_self_eq_false, Bool.or_self, Bool.and_self, reduceCtorEq, Option.some.injEq, Bool.decide_eq_true, decide_eq_true_eq]
  refine ⟨by decide, ?_⟩
  refine W_forI (c := pairD) (fun (r : List (Nat × Nat)) (ρ : En.Env) (S1 : Sto) => Sub S S1 ∧ ∃ (v : List Int) (x2 x3 : Option D), ρ = [some (.tup (ps.map pairD)), some (tupI v), x2, x3] ∧ rowGo r v = rowBy ps ∧ v.length + r.length = 1 + ps.length ∧ Plan v.length r) ?_ ?_ ps _ S ⟨Sub.refl, [1], _, _, rfl, rfl, rfl, hp⟩
  · rintro z r ρ S1 ⟨s, v, x2, x3, rfl, eg, hl', hpr⟩
    refine ⟨rfl, ?_⟩
    simp only [List.length_cons] at hl'
    have hz := hpr.head
    simp only [pairD, tupI, ↓W_sortSet, ↓W_slT, ↓W_var, ↓W_C, ↓W_bin, ↓W_un, ↓W_chain, ↓W_tru, ↓W_tst, ↓W_notT, ↓W_andT, ↓W_orT, ↓W_andV, ↓W_orV, ↓W_notV, ↓W_if, ↓W_nil, ↓W_cons, ↓W_tup, ↓W_lst, ↓W_call, ↓W_callK, ↓W_noPart, ↓W_part, ↓W_sl, ↓W_meth, ↓W_asg, ↓W_name, ↓W_gnil, ↓W_gcons, ↓W_gseq, ↓W_gsub, ↓W_expr, ↓W_ret, ↓W_retN, ↓W_sif, ↓W_next, ↓W_brk, ↓W_cont, ↓W_sbad, ↓W_seq, ↓W_par2, ↓W_par3, ↓W_for, ↓W_lc, ↓W_yes, ↓W_iseq, ↓W_ienum, ↓W_rng1, ↓W_rng2, ↓W_while, ↓W_fun, ↓W_subD, ↓W_addI, ↓W_addS, ↓W_addT, ↓W_mulI, ↓W_fdiv, ↓W_mod, ↓W_neg, ↓W_ord, ↓W_isi, ↓W_is, ↓W_isnt, ↓W_lenT, ↓W_lenN, ↓W_intI, ↓W_intB, ↓W_abs, ↓W_max2, ↓W_min2, ↓W_divmod, ↓W_tupleT, ↓W_tupleN, ↓W_listT, ↓W_eqI, ↓W_neI, ↓W_eqB, ↓W_neB, ↓W_ix0, ↓W_ix1, ↓W_ix2, ↓its_new, ↓its_tup, ↓lst_new, En.pick, List.filterMap_cons, List.filterMap_nil, tyN, tyM, isT, truD, En.isNon, startE, wipeE, List.map_cons, List.map_nil, List.length_cons, List.length_nil, List.cons_append, List.nil_append, List.replicate_succ, List.replicate_zero, List.getElem?_cons_succ, List.getElem?_cons_zero, List.set_cons_succ, List.set_cons_zero, Nat.reduceSub, Nat.reduceAdd, Nat.zero_add, Nat.reduceLeDiff, Nat.sub_self, Bool.not_true, Bool.not_false, Bool.true_and, Bool.and_true, Bool.false_and, Bool.and_false, Bool.or_true, Bool.true_or, Bool.false_or, Bool.or_false, Bool.false_eq_true, if_true, if_false, ite_true, ite_false, true_and, and_true, decide_true, decide_false, String.reduceBEq, beq_self_eq_true, bne_self_eq_false, Bool.or_self, Bool.and_self, reduceCtorEq, Option.some.injEq, Bool.decide_eq_true, decide_eq_true_eq]
    rw [W_ixN its_tup (int_at hz.1)]
    try simp only [↓W_sortSet, ↓W_slT, ↓W_var, ↓W_C, ↓W_bin, ↓W_un, ↓W_chain, ↓W_tru, ↓W_tst, ↓W_notT, ↓W_andT, ↓W_orT, ↓W_andV, ↓W_orV, ↓W_notV, ↓W_if, ↓W_nil, ↓W_cons, ↓W_tup, ↓W_lst, ↓W_call, ↓W_callK, ↓W_noPart, ↓W_part, ↓W_sl, ↓W_meth, ↓W_asg, ↓W_name, ↓W_gnil, ↓W_gcons, ↓W_gseq, ↓W_gsub, ↓W_expr, ↓W_ret, ↓W_retN, ↓W_sif, ↓W_next, ↓W_brk, ↓W_cont, ↓W_sbad, ↓W_seq, ↓W_par2, ↓W_par3, ↓W_for, ↓W_lc, ↓W_yes, ↓W_iseq, ↓W_ienum, ↓W_rng1, ↓W_rng2, ↓W_while, ↓W_fun, ↓W_subD, ↓W_addI, ↓W_addS, ↓W_addT, ↓W_mulI, ↓W_fdiv, ↓W_mod, ↓W_neg, ↓W_ord, ↓W_isi, ↓W_is, ↓W_isnt, ↓W_lenT, ↓W_lenN, ↓W_intI, ↓W_intB, ↓W_abs, ↓W_max2, ↓W_min2, ↓W_divmod, ↓W_tupleT, ↓W_tupleN, ↓W_listT, ↓W_eqI, ↓W_neI, ↓W_eqB, ↓W_neB, ↓W_ix0, ↓W_ix1, ↓W_ix2, ↓its_new, ↓its_tup, ↓lst_new, En.pick, List.filterMap_cons, List.filterMap_nil, tyN, tyM, isT, truD, En.isNon, startE, wipeE, List.map_cons, List.map_nil, List.length_cons, List.length_nil, List.cons_append, List.nil_append, List.replicate_succ, List.replicate_zero, List.getElem?_cons_succ, List.getElem?_cons_zero, List.set_cons_succ, List.set_cons_zero, Nat.reduceSub, Nat.reduceAdd, Nat.zero_add, Nat.reduceLeDiff, Nat.sub_self, Bool.not_true, Bool.not_false, Bool.true_and, Bool.and_true, Bool.false_and, Bool.and_false, Bool.or_true, Bool.true_or, Bool.false_or, Bool.or_false, Bool.false_eq_true, if_true, if_false, ite_true, ite_false, true_and, and_true, decide_true, decide_false, String.reduceBEq, beq_self_eq_true, bne_self_eq_false, Bool.or_self, Bool.and_self, reduceCtorEq, Option.some.injEq, Bool.decide_eq_true, decide_eq_true_eq]
    rw [W_ixN its_tup (int_at hz.2)]
    try simp only [↓W_sortSet, ↓W_slT, ↓W_var, ↓W_C, ↓W_bin, ↓W_un, ↓W_chain, ↓W_tru, ↓W_tst, ↓W_notT, ↓W_andT, ↓W_orT, ↓W_andV, ↓W_orV, ↓W_notV, ↓W_if, ↓W_nil, ↓W_cons, ↓W_tup, ↓W_lst, ↓W_call, ↓W_callK, ↓W_noPart, ↓W_part, ↓W_sl, ↓W_meth, ↓W_asg, ↓W_name, ↓W_gnil, ↓W_gcons, ↓W_gseq, ↓W_gsub, ↓W_expr, ↓W_ret, ↓W_retN, ↓W_sif, ↓W_next, ↓W_brk, ↓W_cont, ↓W_sbad, ↓W_seq, ↓W_par2, ↓W_par3, ↓W_for, ↓W_lc, ↓W_yes, ↓W_iseq, ↓W_ienum, ↓W_rng1, ↓W_rng2, ↓W_while, ↓W_fun, ↓W_subD, ↓W_addI, ↓W_addS, ↓W_addT, ↓W_mulI, ↓W_fdiv, ↓W_mod, ↓W_neg, ↓W_ord, ↓W_isi, ↓W_is, ↓W_isnt, ↓W_lenT, ↓W_lenN, ↓W_intI, ↓W_intB, ↓W_abs, ↓W_max2, ↓W_min2, ↓W_divmod, ↓W_tupleT, ↓W_tupleN, ↓W_listT, ↓W_eqI, ↓W_neI, ↓W_eqB, ↓W_neB, ↓W_ix0, ↓W_ix1, ↓W_ix2, ↓its_new, ↓its_tup, ↓lst_new, En.pick, List.filterMap_cons, List.filterMap_nil, tyN, tyM, isT, truD, En.isNon, startE, wipeE, List.map_cons, List.map_nil, List.length_cons, List.length_nil, List.cons_append, List.nil_append, List.replicate_succ, List.replicate_zero, List.getElem?_cons_succ, List.getElem?_cons_zero, List.set_cons_succ, List.set_cons_zero, Nat.reduceSub, Nat.reduceAdd, Nat.zero_add, Nat.reduceLeDiff, Nat.sub_self, Bool.not_true, Bool.not_false, Bool.true_and, Bool.and_true, Bool.false_and, Bool.and_false, Bool.or_true, Bool.true_or, Bool.false_or, Bool.or_false, Bool.false_eq_true, if_true, if_false, ite_true, ite_false, true_and, and_true, decide_true, decide_false, String.reduceBEq, beq_self_eq_true, bne_self_eq_false, Bool.or_self, Bool.and_self, reduceCtorEq, Option.some.injEq, Bool.decide_eq_true, decide_eq_true_eq]
    refine ⟨by decide, le_lim (by rw [List.length_map]; omega), s, step v z, some (natD z.1), some (natD z.2), ?_, eg, by unfold step; simp; omega, by unfold step; simpa using hpr.tail⟩
    unfold step
    rw [List.map_append]; rfl
  · rintro ρ S1 ⟨s, v, x2, x3, rfl, eg, hl', hpr⟩
    refine ⟨rfl, ?_⟩
    try simp only [↓W_sortSet, ↓W_slT, ↓W_var, ↓W_C, ↓W_bin, ↓W_un, ↓W_chain, ↓W_tru, ↓W_tst, ↓W_notT, ↓W_andT, ↓W_orT, ↓W_andV, ↓W_orV, ↓W_notV, ↓W_if, ↓W_nil, ↓W_cons, ↓W_tup, ↓W_lst, ↓W_call, ↓W_callK, ↓W_noPart, ↓W_part, ↓W_sl, ↓W_meth, ↓W_asg, ↓W_name, ↓W_gnil, ↓W_gcons, ↓W_gseq, ↓W_gsub, ↓W_expr, ↓W_ret, ↓W_retN, ↓W_sif, ↓W_next, ↓W_brk, ↓W_cont, ↓W_sbad, ↓W_seq, ↓W_par2, ↓W_par3, ↓W_for, ↓W_lc, ↓W_yes, ↓W_iseq, ↓W_ienum, ↓W_rng1, ↓W_rng2, ↓W_while, ↓W_fun, ↓W_subD, ↓W_addI, ↓W_addS, ↓W_addT, ↓W_mulI, ↓W_fdiv, ↓W_mod, ↓W_neg, ↓W_ord, ↓W_isi, ↓W_is, ↓W_isnt, ↓W_lenT, ↓W_lenN, ↓W_intI, ↓W_intB, ↓W_abs, ↓W_max2, ↓W_min2, ↓W_divmod, ↓W_tupleT, ↓W_tupleN, ↓W_listT, ↓W_eqI, ↓W_neI, ↓W_eqB, ↓W_neB, ↓W_ix0, ↓W_ix1, ↓W_ix2, ↓its_new, ↓its_tup, ↓lst_new, En.pick, List.filterMap_cons, List.filterMap_nil, tyN, tyM, isT, truD, En.isNon, startE, wipeE, List.map_cons, List.map_nil, List.length_cons, List.length_nil, List.cons_append, List.nil_append, List.replicate_succ, List.replicate_zero, List.getElem?_cons_succ, List.getElem?_cons_zero, List.set_cons_succ, List.set_cons_zero, Nat.reduceSub, Nat.reduceAdd, Nat.zero_add, Nat.reduceLeDiff, Nat.sub_self, Bool.not_true, Bool.not_false, Bool.true_and, Bool.and_true, Bool.false_and, Bool.and_false, Bool.or_true, Bool.true_or, Bool.false_or, Bool.or_false, Bool.false_eq_true, if_true, if_false, ite_true, ite_false, true_and, and_true, decide_true, decide_false, String.reduceBEq, beq_self_eq_true, bne_self_eq_false, Bool.or_self, Bool.and_self, reduceCtorEq, Option.some.injEq, Bool.decide_eq_true, decide_eq_true_eq]
    exact ⟨by rw [← eg]; rfl, s⟩
/-- all above nought -/
def Pos (v : List Int) : Prop := ∀ i, i < v.length → 1 ≤ at' v i
theorem at_snoc {v : List Int} {x : Int} {i : Nat} : at' (v ++ [x]) i = if i < v.length then at' v i else if i = v.length then x else 0 := by
  unfold at'
  by_cases h : i < v.length
  · rw [if_pos h, List.getElem?_append_left h]
  · rw [if_neg h, List.getElem?_append_right (by omega)]
    by_cases h2 : i = v.length
    · subst h2; simp
    · rw [if_neg h2, List.getElem?_eq_none (by simp; omega)]; rfl
theorem Pos.step {v : List Int} {z : Nat × Nat} (h : Pos v) (h1 : z.1 < v.length) (h2 : z.2 < v.length) : Pos (step v z) := fun i hi => by
  unfold L_k07.step at hi ⊢
  rw [at_snoc]
  by_cases hv : i < v.length
  · rw [if_pos hv]; exact h i hv
  · have : i = v.length := by simp at hi; omega
    have a := h _ h1
    have b := h _ h2
    rw [if_neg hv, if_pos this]; omega
theorem last_at {v : List Int} (h : 1 ≤ v.length) : atI (v.map D.int) (-1) = some (.int (at' v (v.length - 1))) := by
  unfold atI ixN
  rw [if_neg (by decide), if_pos (by rw [List.length_map]; omega)]
  simp only [List.length_map, Option.bind_some]
  rw [show ((-1 : Int) + (v.length : Int)).toNat = v.length - 1 from by omega]
  exact int_at (by omega)
/-- pairs that may be put behind v -/
def May (v : List Int) (zs : List (Nat × Nat)) : Prop := ∀ z ∈ zs, z.1 < v.length ∧ z.2 < v.length
theorem rngLo {lo n : Nat} (h : lo ≤ n) : rngD (lo : Int) (((n : Int) - (lo : Int))).toNat = (List.range' lo (n - lo)).map fun (i : Nat) => D.int (i : Int) := by
  unfold rngD
  rw [List.range'_eq_map_range, List.map_map, show ((n : Int) - (lo : Int)).toNat = n - lo from by omega]
  refine List.map_congr_left fun i _ => ?_
  simp
/-- the loop that gathers pairs -/
theorem some_loop {b : Nat} {v : List Int} {S0 : Sto} {Qo : Out → Sto → Prop} {d0 d1 d2 d3 d5 : D} {x7 x8 x9 : Option D} (hv : 1 ≤ v.length) (hv2 : v.length ≤ 900) (hp : Pos v) (hb : b < S0.length)
    (k : ∀ c zs x7' S', Sub S0 S' → c ≠ b → S'[c]? = some (.lst (zs.map pairD)) → zs.length ≤ 1000000 → May v zs → (∃ z ∈ zs, z.1 = v.length - 1) → Qo (.next [some d0, some d1, some d2, some d3, some (tupI v), some d5, some (.loc c), x7', x8, x9]) S') :
    W (forL none (gmName 7) (sAsg (mBin addD (mVar 6) (mLc (iRange1 (mCons (mBin addD (mVar 7) (mC (.int 1))) mNil)) (gmName 8) (mTst (mBin gtD (mBin addD (mBin ixD (mVar 4) (mVar 7)) (mBin ixD (mVar 4) (mVar 8))) (mBin ixD (mVar 4) (mUn negD (mC (.int 1)))))) (mTup (mCons (mVar 7) (mCons (mVar 8) mNil))) [8])) (gmName 6))
      ((List.range' (v.length - 7) (v.length - (v.length - 7))).map fun (i : Nat) => D.int (i : Int)) [some d0, some d1, some d2, some d3, some (tupI v), some d5, some (.loc S0.length), x7, x8, x9] (S0 ++ [.lst []])) Qo := by
  refine W_forI (c := fun i : Nat => D.int (i : Int)) (fun (r : List Nat) (ρ : En.Env) (S1 : Sto) => Sub S0 S1 ∧ ∃ (j n c : Nat) (zs : List (Nat × Nat)) (x7' : Option D), r = List.range' j n ∧ j + n = v.length ∧ c ≠ b ∧ S1[c]? = some (C.lst (zs.map pairD)) ∧ zs.length ≤ 1000 * j ∧ May v zs ∧ (j = v.length → ∃ z ∈ zs, z.1 = v.length - 1) ∧ ρ = [some d0, some d1, some d2, some d3, some (tupI v), some d5, some (.loc c), x7', x8, x9]) ?_ ?_ _ _ _ ⟨Sub.app, v.length - 7, v.length - (v.length - 7), S0.length, [], _, rfl, by omega, by omega, at_new, Nat.zero_le _, (by intro z hz; cases hz), by omega, rfl⟩
  · rintro x r ρ S1 ⟨s, j, n, c, zs, x7', er, en, hc, e, hle, hm, hx, rfl⟩
    obtain ⟨m, rfl, rfl, rfl⟩ := range_cons er
    have hxv : x < v.length := by omega
    refine ⟨rfl, ?_⟩
    try simp only [↓W_sortSet, ↓W_slT, ↓W_var, ↓W_C, ↓W_bin, ↓W_un, ↓W_chain, ↓W_tru, ↓W_tst, ↓W_notT, ↓W_andT, ↓W_orT, ↓W_andV, ↓W_orV, ↓W_notV, ↓W_if, ↓W_nil, ↓W_cons, ↓W_tup, ↓W_lst, ↓W_call, ↓W_callK, ↓W_noPart, ↓W_part, ↓W_sl, ↓W_meth, ↓W_asg, ↓W_name, ↓W_gnil, ↓W_gcons, ↓W_gseq, ↓W_gsub, ↓W_expr, ↓W_ret, ↓W_retN, ↓W_sif, ↓W_next, ↓W_brk, ↓W_cont, ↓W_sbad, ↓W_seq, ↓W_par2, ↓W_par3, ↓W_for, ↓W_lc, ↓W_yes, ↓W_iseq, ↓W_ienum, ↓W_rng1, ↓W_rng2, ↓W_while, ↓W_fun, ↓W_subD, ↓W_addI, ↓W_addS, ↓W_addT, ↓W_mulI, ↓W_fdiv, ↓W_mod, ↓W_neg, ↓W_ord, ↓W_isi, ↓W_is, ↓W_isnt, ↓W_lenT, ↓W_lenN, ↓W_intI, ↓W_intB, ↓W_abs, ↓W_max2, ↓W_min2, ↓W_divmod, ↓W_tupleT, ↓W_tupleN, ↓W_listT, ↓W_eqI, ↓W_neI, ↓W_eqB, ↓W_neB, ↓W_ix0, ↓W_ix1, ↓W_ix2, ↓its_new, ↓its_tup, ↓lst_new, En.pick, List.filterMap_cons, List.filterMap_nil, tyN, tyM, isT, truD, En.isNon, startE, wipeE, List.map_cons, List.map_nil, List.length_cons, List.length_nil, List.cons_append, List.nil_append, List.replicate_succ, List.replicate_zero, List.getElem?_cons_succ, List.getElem?_cons_zero, List.set_cons_succ, List.set_cons_zero, Nat.reduceSub, Nat.reduceAdd, Nat.zero_add, Nat.reduceLeDiff, Nat.sub_self, Bool.not_true, Bool.not_false, Bool.true_and, Bool.and_true, Bool.false_and, Bool.and_false, Bool.or_true, Bool.true_or, Bool.false_or, Bool.or_false, Bool.false_eq_true, if_true, if_false, ite_true, ite_false, true_and, and_true, decide_true, decide_false, String.reduceBEq, beq_self_eq_true, bne_self_eq_false, Bool.or_self, Bool.and_self, reduceCtorEq, Option.some.injEq, Bool.decide_eq_true, decide_eq_true_eq]
    refine ⟨by omega, ?_⟩
    rw [show ((x : Int) + 1).toNat = x + 1 from by omega, rng0]
    refine W_lcP (c := fun i : Nat => D.int (i : Int)) (p := fun i' => decide (at' v (v.length - 1) < at' v x + at' v i')) (v := fun i' => pairD (x, i')) rfl (fun i' hi S2 s2 => ?_) fun S2 s2 => ?_
    · have hi := List.mem_range.mp hi
      simp only [tupI, ↓W_sortSet, ↓W_slT, ↓W_var, ↓W_C, ↓W_bin, ↓W_un, ↓W_chain, ↓W_tru, ↓W_tst, ↓W_notT, ↓W_andT, ↓W_orT, ↓W_andV, ↓W_orV, ↓W_notV, ↓W_if, ↓W_nil, ↓W_cons, ↓W_tup, ↓W_lst, ↓W_call, ↓W_callK, ↓W_noPart, ↓W_part, ↓W_sl, ↓W_meth, ↓W_asg, ↓W_name, ↓W_gnil, ↓W_gcons, ↓W_gseq, ↓W_gsub, ↓W_expr, ↓W_ret, ↓W_retN, ↓W_sif, ↓W_next, ↓W_brk, ↓W_cont, ↓W_sbad, ↓W_seq, ↓W_par2, ↓W_par3, ↓W_for, ↓W_lc, ↓W_yes, ↓W_iseq, ↓W_ienum, ↓W_rng1, ↓W_rng2, ↓W_while, ↓W_fun, ↓W_subD, ↓W_addI, ↓W_addS, ↓W_addT, ↓W_mulI, ↓W_fdiv, ↓W_mod, ↓W_neg, ↓W_ord, ↓W_isi, ↓W_is, ↓W_isnt, ↓W_lenT, ↓W_lenN, ↓W_intI, ↓W_intB, ↓W_abs, ↓W_max2, ↓W_min2, ↓W_divmod, ↓W_tupleT, ↓W_tupleN, ↓W_listT, ↓W_eqI, ↓W_neI, ↓W_eqB, ↓W_neB, ↓W_ix0, ↓W_ix1, ↓W_ix2, ↓its_new, ↓its_tup, ↓lst_new, En.pick, List.filterMap_cons, List.filterMap_nil, tyN, tyM, isT, truD, En.isNon, startE, wipeE, List.map_cons, List.map_nil, List.length_cons, List.length_nil, List.cons_append, List.nil_append, List.replicate_succ, List.replicate_zero, List.getElem?_cons_succ, List.getElem?_cons_zero, List.set_cons_succ, List.set_cons_zero, Nat.reduceSub, Nat.reduceAdd, Nat.zero_add, Nat.reduceLeDiff, Nat.sub_self, Bool.not_true, Bool.not_false, Bool.true_and, Bool.and_true, Bool.false_and, Bool.and_false, Bool.or_true, Bool.true_or, Bool.false_or, Bool.or_false, Bool.false_eq_true, if_true, if_false, ite_true, ite_false, true_and, and_true, decide_true, decide_false, String.reduceBEq, beq_self_eq_true, bne_self_eq_false, Bool.or_self, Bool.and_self, reduceCtorEq, Option.some.injEq, Bool.decide_eq_true, decide_eq_true_eq]
      rw [W_ixN its_tup (int_at hxv)]
      try simp only [↓W_sortSet, ↓W_slT, ↓W_var, ↓W_C, ↓W_bin, ↓W_un, ↓W_chain, ↓W_tru, ↓W_tst, ↓W_notT, ↓W_andT, ↓W_orT, ↓W_andV, ↓W_orV, ↓W_notV, ↓W_if, ↓W_nil, ↓W_cons, ↓W_tup, ↓W_lst, ↓W_call, ↓W_callK, ↓W_noPart, ↓W_part, ↓W_sl, ↓W_meth, ↓W_asg, ↓W_name, ↓W_gnil, ↓W_gcons, ↓W_gseq, ↓W_gsub, ↓W_expr, ↓W_ret, ↓W_retN, ↓W_sif, ↓W_next, ↓W_brk, ↓W_cont, ↓W_sbad, ↓W_seq, ↓W_par2, ↓W_par3, ↓W_for, ↓W_lc, ↓W_yes, ↓W_iseq, ↓W_ienum, ↓W_rng1, ↓W_rng2, ↓W_while, ↓W_fun, ↓W_subD, ↓W_addI, ↓W_addS, ↓W_addT, ↓W_mulI, ↓W_fdiv, ↓W_mod, ↓W_neg, ↓W_ord, ↓W_isi, ↓W_is, ↓W_isnt, ↓W_lenT, ↓W_lenN, ↓W_intI, ↓W_intB, ↓W_abs, ↓W_max2, ↓W_min2, ↓W_divmod, ↓W_tupleT, ↓W_tupleN, ↓W_listT, ↓W_eqI, ↓W_neI, ↓W_eqB, ↓W_neB, ↓W_ix0, ↓W_ix1, ↓W_ix2, ↓its_new, ↓its_tup, ↓lst_new, En.pick, List.filterMap_cons, List.filterMap_nil, tyN, tyM, isT, truD, En.isNon, startE, wipeE, List.map_cons, List.map_nil, List.length_cons, List.length_nil, List.cons_append, List.nil_append, List.replicate_succ, List.replicate_zero, List.getElem?_cons_succ, List.getElem?_cons_zero, List.set_cons_succ, List.set_cons_zero, Nat.reduceSub, Nat.reduceAdd, Nat.zero_add, Nat.reduceLeDiff, Nat.sub_self, Bool.not_true, Bool.not_false, Bool.true_and, Bool.and_true, Bool.false_and, Bool.and_false, Bool.or_true, Bool.true_or, Bool.false_or, Bool.or_false, Bool.false_eq_true, if_true, if_false, ite_true, ite_false, true_and, and_true, decide_true, decide_false, String.reduceBEq, beq_self_eq_true, bne_self_eq_false, Bool.or_self, Bool.and_self, reduceCtorEq, Option.some.injEq, Bool.decide_eq_true, decide_eq_true_eq]
      rw [W_ixN its_tup (int_at (i := i') (by omega))]
      try simp only [↓W_sortSet, ↓W_slT, ↓W_var, ↓W_C, ↓W_bin, ↓W_un, ↓W_chain, ↓W_tru, ↓W_tst, ↓W_notT, ↓W_andT, ↓W_orT, ↓W_andV, ↓W_orV, ↓W_notV, ↓W_if, ↓W_nil, ↓W_cons, ↓W_tup, ↓W_lst, ↓W_call, ↓W_callK, ↓W_noPart, ↓W_part, ↓W_sl, ↓W_meth, ↓W_asg, ↓W_name, ↓W_gnil, ↓W_gcons, ↓W_gseq, ↓W_gsub, ↓W_expr, ↓W_ret, ↓W_retN, ↓W_sif, ↓W_next, ↓W_brk, ↓W_cont, ↓W_sbad, ↓W_seq, ↓W_par2, ↓W_par3, ↓W_for, ↓W_lc, ↓W_yes, ↓W_iseq, ↓W_ienum, ↓W_rng1, ↓W_rng2, ↓W_while, ↓W_fun, ↓W_subD, ↓W_addI, ↓W_addS, ↓W_addT, ↓W_mulI, ↓W_fdiv, ↓W_mod, ↓W_neg, ↓W_ord, ↓W_isi, ↓W_is, ↓W_isnt, ↓W_lenT, ↓W_lenN, ↓W_intI, ↓W_intB, ↓W_abs, ↓W_max2, ↓W_min2, ↓W_divmod, ↓W_tupleT, ↓W_tupleN, ↓W_listT, ↓W_eqI, ↓W_neI, ↓W_eqB, ↓W_neB, ↓W_ix0, ↓W_ix1, ↓W_ix2, ↓its_new, ↓its_tup, ↓lst_new, En.pick, List.filterMap_cons, List.filterMap_nil, tyN, tyM, isT, truD, En.isNon, startE, wipeE, List.map_cons, List.map_nil, List.length_cons, List.length_nil, List.cons_append, List.nil_append, List.replicate_succ, List.replicate_zero, List.getElem?_cons_succ, List.getElem?_cons_zero, List.set_cons_succ, List.set_cons_zero, Nat.reduceSub, Nat.reduceAdd, Nat.zero_add, Nat.reduceLeDiff, Nat.sub_self, Bool.not_true, Bool.not_false, Bool.true_and, Bool.and_true, Bool.false_and, Bool.and_false, Bool.or_true, Bool.true_or, Bool.false_or, Bool.or_false, Bool.false_eq_true, if_true, if_false, ite_true, ite_false, true_and, and_true, decide_true, decide_false, String.reduceBEq, beq_self_eq_true, bne_self_eq_false, Bool.or_self, Bool.and_self, reduceCtorEq, Option.some.injEq, Bool.decide_eq_true, decide_eq_true_eq]
      rw [W_ix (ds := v.map D.int) rfl, last_at hv]
      try simp only [↓W_sortSet, ↓W_slT, ↓W_var, ↓W_C, ↓W_bin, ↓W_un, ↓W_chain, ↓W_tru, ↓W_tst, ↓W_notT, ↓W_andT, ↓W_orT, ↓W_andV, ↓W_orV, ↓W_notV, ↓W_if, ↓W_nil, ↓W_cons, ↓W_tup, ↓W_lst, ↓W_call, ↓W_callK, ↓W_noPart, ↓W_part, ↓W_sl, ↓W_meth, ↓W_asg, ↓W_name, ↓W_gnil, ↓W_gcons, ↓W_gseq, ↓W_gsub, ↓W_expr, ↓W_ret, ↓W_retN, ↓W_sif, ↓W_next, ↓W_brk, ↓W_cont, ↓W_sbad, ↓W_seq, ↓W_par2, ↓W_par3, ↓W_for, ↓W_lc, ↓W_yes, ↓W_iseq, ↓W_ienum, ↓W_rng1, ↓W_rng2, ↓W_while, ↓W_fun, ↓W_subD, ↓W_addI, ↓W_addS, ↓W_addT, ↓W_mulI, ↓W_fdiv, ↓W_mod, ↓W_neg, ↓W_ord, ↓W_isi, ↓W_is, ↓W_isnt, ↓W_lenT, ↓W_lenN, ↓W_intI, ↓W_intB, ↓W_abs, ↓W_max2, ↓W_min2, ↓W_divmod, ↓W_tupleT, ↓W_tupleN, ↓W_listT, ↓W_eqI, ↓W_neI, ↓W_eqB, ↓W_neB, ↓W_ix0, ↓W_ix1, ↓W_ix2, ↓its_new, ↓its_tup, ↓lst_new, En.pick, List.filterMap_cons, List.filterMap_nil, tyN, tyM, isT, truD, En.isNon, startE, wipeE, List.map_cons, List.map_nil, List.length_cons, List.length_nil, List.cons_append, List.nil_append, List.replicate_succ, List.replicate_zero, List.getElem?_cons_succ, List.getElem?_cons_zero, List.set_cons_succ, List.set_cons_zero, Nat.reduceSub, Nat.reduceAdd, Nat.zero_add, Nat.reduceLeDiff, Nat.sub_self, Bool.not_true, Bool.not_false, Bool.true_and, Bool.and_true, Bool.false_and, Bool.and_false, Bool.or_true, Bool.true_or, Bool.false_or, Bool.or_false, Bool.false_eq_true, if_true, if_false, ite_true, ite_false, true_and, and_true, decide_true, decide_false, String.reduceBEq, beq_self_eq_true, bne_self_eq_false, Bool.or_self, Bool.and_self, reduceCtorEq, Option.some.injEq, Bool.decide_eq_true, decide_eq_true_eq]
      by_cases hg : at' v (v.length - 1) < at' v x + at' v i'
      · simp only [hg, ↓W_sortSet, ↓W_slT, ↓W_var, ↓W_C, ↓W_bin, ↓W_un, ↓W_chain, ↓W_tru, ↓W_tst, ↓W_notT, ↓W_andT, ↓W_orT, ↓W_andV, ↓W_orV, ↓W_notV, ↓W_if, ↓W_nil, ↓W_cons, ↓W_tup, ↓W_lst, ↓W_call, ↓W_callK, ↓W_noPart, ↓W_part, ↓W_sl, ↓W_meth, ↓W_asg, ↓W_name, ↓W_gnil, ↓W_gcons, ↓W_gseq, ↓W_gsub, ↓W_expr, ↓W_ret, ↓W_retN, ↓W_sif, ↓W_next, ↓W_brk, ↓W_cont, ↓W_sbad, ↓W_seq, ↓W_par2, ↓W_par3, ↓W_for, ↓W_lc, ↓W_yes, ↓W_iseq, ↓W_ienum, ↓W_rng1, ↓W_rng2, ↓W_while, ↓W_fun, ↓W_subD, ↓W_addI, ↓W_addS, ↓W_addT, ↓W_mulI, ↓W_fdiv, ↓W_mod, ↓W_neg, ↓W_ord, ↓W_isi, ↓W_is, ↓W_isnt, ↓W_lenT, ↓W_lenN, ↓W_intI, ↓W_intB, ↓W_abs, ↓W_max2, ↓W_min2, ↓W_divmod, ↓W_tupleT, ↓W_tupleN, ↓W_listT, ↓W_eqI, ↓W_neI, ↓W_eqB, ↓W_neB, ↓W_ix0, ↓W_ix1, ↓W_ix2, ↓its_new, ↓its_tup, ↓lst_new, En.pick, List.filterMap_cons, List.filterMap_nil, tyN, tyM, isT, truD, En.isNon, startE, wipeE, List.map_cons, List.map_nil, List.length_cons, List.length_nil, List.cons_append, List.nil_append, List.replicate_succ, List.replicate_zero, List.getElem?_cons_succ, List.getElem?_cons_zero, List.set_cons_succ, List.set_cons_zero, Nat.reduceSub, Nat.reduceAdd, Nat.zero_add, Nat.reduceLeDiff, Nat.sub_self, Bool.not_true, Bool.not_false, Bool.true_and, Bool.and_true, Bool.false_and, Bool.and_false, Bool.or_true, Bool.true_or, Bool.false_or, Bool.or_false, Bool.false_eq_true, if_true, if_false, ite_true, ite_false, true_and, and_true, decide_true, decide_false, String.reduceBEq, beq_self_eq_true, bne_self_eq_false, Bool.or_self, Bool.and_self, reduceCtorEq, Option.some.injEq, Bool.decide_eq_true, decide_eq_true_eq]; exact ⟨by decide, rfl, Sub.refl⟩
      · simp only [hg, ↓W_sortSet, ↓W_slT, ↓W_var, ↓W_C, ↓W_bin, ↓W_un, ↓W_chain, ↓W_tru, ↓W_tst, ↓W_notT, ↓W_andT, ↓W_orT, ↓W_andV, ↓W_orV, ↓W_notV, ↓W_if, ↓W_nil, ↓W_cons, ↓W_tup, ↓W_lst, ↓W_call, ↓W_callK, ↓W_noPart, ↓W_part, ↓W_sl, ↓W_meth, ↓W_asg, ↓W_name, ↓W_gnil, ↓W_gcons, ↓W_gseq, ↓W_gsub, ↓W_expr, ↓W_ret, ↓W_retN, ↓W_sif, ↓W_next, ↓W_brk, ↓W_cont, ↓W_sbad, ↓W_seq, ↓W_par2, ↓W_par3, ↓W_for, ↓W_lc, ↓W_yes, ↓W_iseq, ↓W_ienum, ↓W_rng1, ↓W_rng2, ↓W_while, ↓W_fun, ↓W_subD, ↓W_addI, ↓W_addS, ↓W_addT, ↓W_mulI, ↓W_fdiv, ↓W_mod, ↓W_neg, ↓W_ord, ↓W_isi, ↓W_is, ↓W_isnt, ↓W_lenT, ↓W_lenN, ↓W_intI, ↓W_intB, ↓W_abs, ↓W_max2, ↓W_min2, ↓W_divmod, ↓W_tupleT, ↓W_tupleN, ↓W_listT, ↓W_eqI, ↓W_neI, ↓W_eqB, ↓W_neB, ↓W_ix0, ↓W_ix1, ↓W_ix2, ↓its_new, ↓its_tup, ↓lst_new, En.pick, List.filterMap_cons, List.filterMap_nil, tyN, tyM, isT, truD, En.isNon, startE, wipeE, List.map_cons, List.map_nil, List.length_cons, List.length_nil, List.cons_append, List.nil_append, List.replicate_succ, List.replicate_zero, List.getElem?_cons_succ, List.getElem?_cons_zero, List.set_cons_succ, List.set_cons_zero, Nat.reduceSub, Nat.reduceAdd, Nat.zero_add, Nat.reduceLeDiff, Nat.sub_self, Bool.not_true, Bool.not_false, Bool.true_and, Bool.and_true, Bool.false_and, Bool.and_false, Bool.or_true, Bool.true_or, Bool.false_or, Bool.or_false, Bool.false_eq_true, if_true, if_false, ite_true, ite_false, true_and, and_true, decide_true, decide_false, String.reduceBEq, beq_self_eq_true, bne_self_eq_false, Bool.or_self, Bool.and_self, reduceCtorEq, Option.some.injEq, Bool.decide_eq_true, decide_eq_true_eq]; exact Sub.refl
    · have lf : ((List.range (x + 1)).filter fun i' => decide (at' v (v.length - 1) < at' v x + at' v i')).length ≤ 1000 :=
        Nat.le_trans (List.length_filter_le _ _) (by rw [List.length_range]; omega)
      refine ⟨le_lim (by rw [List.length_map]; omega), ?_⟩
      rw [W_addL (Sub.app _ _ (s2 _ _ e)) at_new]
      refine ⟨le_lim (by rw [List.length_map, List.length_map]; omega), ?_⟩
      try simp only [↓W_sortSet, ↓W_slT, ↓W_var, ↓W_C, ↓W_bin, ↓W_un, ↓W_chain, ↓W_tru, ↓W_tst, ↓W_notT, ↓W_andT, ↓W_orT, ↓W_andV, ↓W_orV, ↓W_notV, ↓W_if, ↓W_nil, ↓W_cons, ↓W_tup, ↓W_lst, ↓W_call, ↓W_callK, ↓W_noPart, ↓W_part, ↓W_sl, ↓W_meth, ↓W_asg, ↓W_name, ↓W_gnil, ↓W_gcons, ↓W_gseq, ↓W_gsub, ↓W_expr, ↓W_ret, ↓W_retN, ↓W_sif, ↓W_next, ↓W_brk, ↓W_cont, ↓W_sbad, ↓W_seq, ↓W_par2, ↓W_par3, ↓W_for, ↓W_lc, ↓W_yes, ↓W_iseq, ↓W_ienum, ↓W_rng1, ↓W_rng2, ↓W_while, ↓W_fun, ↓W_subD, ↓W_addI, ↓W_addS, ↓W_addT, ↓W_mulI, ↓W_fdiv, ↓W_mod, ↓W_neg, ↓W_ord, ↓W_isi, ↓W_is, ↓W_isnt, ↓W_lenT, ↓W_lenN, ↓W_intI, ↓W_intB, ↓W_abs, ↓W_max2, ↓W_min2, ↓W_divmod, ↓W_tupleT, ↓W_tupleN, ↓W_listT, ↓W_eqI, ↓W_neI, ↓W_eqB, ↓W_neB, ↓W_ix0, ↓W_ix1, ↓W_ix2, ↓its_new, ↓its_tup, ↓lst_new, En.pick, List.filterMap_cons, List.filterMap_nil, tyN, tyM, isT, truD, En.isNon, startE, wipeE, List.map_cons, List.map_nil, List.length_cons, List.length_nil, List.cons_append, List.nil_append, List.replicate_succ, List.replicate_zero, List.getElem?_cons_succ, List.getElem?_cons_zero, List.set_cons_succ, List.set_cons_zero, Nat.reduceSub, Nat.reduceAdd, Nat.zero_add, Nat.reduceLeDiff, Nat.sub_self, Bool.not_true, Bool.not_false, Bool.true_and, Bool.and_true, Bool.false_and, Bool.and_false, Bool.or_true, Bool.true_or, Bool.false_or, Bool.or_false, Bool.false_eq_true, if_true, if_false, ite_true, ite_false, true_and, and_true, decide_true, decide_false, String.reduceBEq, beq_self_eq_true, bne_self_eq_false, Bool.or_self, Bool.and_self, reduceCtorEq, Option.some.injEq, Bool.decide_eq_true, decide_eq_true_eq]
      have hcn : (S2 ++ [C.lst (((List.range (x + 1)).filter fun i' => decide (at' v (v.length - 1) < at' v x + at' v i')).map fun i' => pairD (x, i'))]).length ≠ b := by
        have := (s.trans s2).len
        simp; omega
      refine ⟨(s.trans s2).new.new, x + 1, m, _, zs ++ ((List.range (x + 1)).filter fun i' => decide (at' v (v.length - 1) < at' v x + at' v i')).map fun i' => (x, i'), _, rfl, by omega, hcn, ?_, by rw [List.length_append, List.length_map]; omega, ?_, fun hxl => ?_, rfl⟩
      · rw [at_new, List.map_append, List.map_map]; rfl
      · intro z hz
        rcases List.mem_append.mp hz with h | h
        · exact hm z h
        · obtain ⟨i', hi', rfl⟩ := List.mem_map.mp h
          have := List.mem_range.mp (List.mem_filter.mp hi').1
          exact ⟨hxv, by show i' < _; omega⟩
      · refine ⟨(x, 0), List.mem_append_right _ (List.mem_map.mpr ⟨0, List.mem_filter.mpr ⟨List.mem_range.mpr (by omega), ?_⟩, rfl⟩), by show x = _; omega⟩
        have := hp 0 (by omega)
        rw [show v.length - 1 = x from by omega]
        exact decide_eq_true (by omega)
  · rintro ρ S1 ⟨s, j, n, c, zs, x7', er, en, hc, e, hle, hm, hx, rfl⟩
    have := range_nil er
    subst this
    exact ⟨rfl, k c zs x7' S1 s hc e (by omega) hm (hx (by omega))⟩
end L_k07
namespace L_k07
open PySem L2 En
abbrev t1 : MS := sIf (mOrT (mAndT (mTst (mBin eqD (mVar 2) (mC (.int 3)))) (mTst (mBin gtD (mCall m__law_draw (mCons (mVar 0) (mCons (mC (.int 3)) mNil))) (mC (.int 0))))) (mTst (mBin eqD (mVar 2) (mC (.int 5))))) (sAsg (mTup (mCons (mVar 5) (mCons (mVar 5) mNil))) (gmName 9)) sNext
noncomputable abbrev t2 : MS := sIf (mTst (mBin eqD (mVar 2) (mC (.int 4)))) (sAsg (mSl (mCall minLD (mCons (mLc (iSeq (mVar 6)) (gmSeq 2 (gmCons (gmName 7) (gmCons (gmName 8) gmNil))) mYes (mTup (mCons (mBin addD (mBin ixD (mVar 4) (mVar 7)) (mBin ixD (mVar 4) (mVar 8))) (mCons (mVar 7) (mCons (mVar 8) mNil)))) [7, 8]) mNil)) (mPart (mC (.int 1))) mNoPart) (gmName 9)) sNext
abbrev t3 : MS := sAsg (mTup (mCons (mBin addD (mVar 3) (mTup (mCons (mVar 9) mNil))) (mCons (mBin addD (mVar 4) (mTup (mCons (mBin addD (mBin ixD (mVar 4) (mBin ixD (mVar 9) (mC (.int 0)))) (mBin ixD (mVar 4) (mBin ixD (mVar 9) (mC (.int 1))))) mNil))) mNil))) (gmSeq 2 (gmCons (gmName 3) (gmCons (gmName 4) gmNil)))
theorem plan_tail {b kind k c : Nat} {v : List Int} {ps zs : List (Nat × Nat)} {z : Nat × Nat} {d1 : D} {x7 x8 : Option D} {S : Sto} {Qo : Out → Sto → Prop} (hw : Bowl b S) (hcb : c ≠ b) (e : S[c]? = some (.lst (zs.map pairD))) (hzl : zs.length ≤ 1000000) (hz0 : zs ≠ []) (hm : May v zs) (h1 : z.1 < v.length) (h2 : z.2 < v.length) (hk : k + 1 = v.length) (hv2 : v.length ≤ 900) (hpl : ps.length ≤ 900)
    (kk : ∀ z' S', z'.1 < v.length → z'.2 < v.length → SubB b S S' → Bowl b S' → Qo (.next [some (.loc b), some d1, some (natD kind), some (.tup ((ps ++ [z']).map pairD)), some (tupI (step v z')), some (natD k), some (.loc c), x7, x8, some (pairD z')]) S') :
    W (sSeq t1 (sSeq t2 t3) [some (.loc b), some d1, some (natD kind), some (.tup (ps.map pairD)), some (tupI v), some (natD k), some (.loc c), x7, x8, some (pairD z)] S) Qo := by
  have env : ∀ z : Nat × Nat, D := fun _ => .non
  rw [W_seq]
  refine W.imp (Q := fun o S1 => ∃ z1 : Nat × Nat, o = .next [some (.loc b), some d1, some (natD kind), some (.tup (ps.map pairD)), some (tupI v), some (natD k), some (.loc c), x7, x8, some (pairD z1)] ∧ z1.1 < v.length ∧ z1.2 < v.length ∧ SubB b S S1 ∧ Bowl b S1) ?_ ?_
  · try simp only [↓W_sortSet, ↓W_slT, ↓W_var, ↓W_C, ↓W_bin, ↓W_un, ↓W_chain, ↓W_tru, ↓W_tst, ↓W_notT, ↓W_andT, ↓W_orT, ↓W_andV, ↓W_orV, ↓W_notV, ↓W_if, ↓W_nil, ↓W_cons, ↓W_tup, ↓W_lst, ↓W_call, ↓W_callK, ↓W_noPart, ↓W_part, ↓W_sl, ↓W_meth, ↓W_asg, ↓W_name, ↓W_gnil, ↓W_gcons, ↓W_gseq, ↓W_gsub, ↓W_expr, ↓W_ret, ↓W_retN, ↓W_sif, ↓W_next, ↓W_brk, ↓W_cont, ↓W_sbad, ↓W_seq, ↓W_par2, ↓W_par3, ↓W_for, ↓W_lc, ↓W_yes, ↓W_iseq, ↓W_ienum, ↓W_rng1, ↓W_rng2, ↓W_while, ↓W_fun, ↓W_subD, ↓W_addI, ↓W_addS, ↓W_addT, ↓W_mulI, ↓W_fdiv, ↓W_mod, ↓W_neg, ↓W_ord, ↓W_isi, ↓W_is, ↓W_isnt, ↓W_lenT, ↓W_lenN, ↓W_intI, ↓W_intB, ↓W_abs, ↓W_max2, ↓W_min2, ↓W_divmod, ↓W_tupleT, ↓W_tupleN, ↓W_listT, ↓W_eqI, ↓W_neI, ↓W_eqB, ↓W_neB, ↓W_ix0, ↓W_ix1, ↓W_ix2, ↓its_new, ↓its_tup, ↓lst_new, En.pick, List.filterMap_cons, List.filterMap_nil, tyN, tyM, isT, truD, En.isNon, startE, wipeE, List.map_cons, List.map_nil, List.length_cons, List.length_nil, List.cons_append, List.nil_append, List.replicate_succ, List.replicate_zero, List.getElem?_cons_succ, List.getElem?_cons_zero, List.set_cons_succ, List.set_cons_zero, Nat.reduceSub, Nat.reduceAdd, Nat.zero_add, Nat.reduceLeDiff, Nat.sub_self, Bool.not_true, Bool.not_false, Bool.true_and, Bool.and_true, Bool.false_and, Bool.and_false, Bool.or_true, Bool.true_or, Bool.false_or, Bool.or_false, Bool.false_eq_true, if_true, if_false, ite_true, ite_false, true_and, and_true, decide_true, decide_false, String.reduceBEq, beq_self_eq_true, bne_self_eq_false, Bool.or_self, Bool.and_self, reduceCtorEq, Option.some.injEq, Bool.decide_eq_true, decide_eq_true_eq]
    by_cases c3 : ((kind : Int) == 3) = true
    · have c5 : ((kind : Int) == 5) = false := by simp at c3 ⊢; omega
      simp only [c3, ↓W_sortSet, ↓W_slT, ↓W_var, ↓W_C, ↓W_bin, ↓W_un, ↓W_chain, ↓W_tru, ↓W_tst, ↓W_notT, ↓W_andT, ↓W_orT, ↓W_andV, ↓W_orV, ↓W_notV, ↓W_if, ↓W_nil, ↓W_cons, ↓W_tup, ↓W_lst, ↓W_call, ↓W_callK, ↓W_noPart, ↓W_part, ↓W_sl, ↓W_meth, ↓W_asg, ↓W_name, ↓W_gnil, ↓W_gcons, ↓W_gseq, ↓W_gsub, ↓W_expr, ↓W_ret, ↓W_retN, ↓W_sif, ↓W_next, ↓W_brk, ↓W_cont, ↓W_sbad, ↓W_seq, ↓W_par2, ↓W_par3, ↓W_for, ↓W_lc, ↓W_yes, ↓W_iseq, ↓W_ienum, ↓W_rng1, ↓W_rng2, ↓W_while, ↓W_fun, ↓W_subD, ↓W_addI, ↓W_addS, ↓W_addT, ↓W_mulI, ↓W_fdiv, ↓W_mod, ↓W_neg, ↓W_ord, ↓W_isi, ↓W_is, ↓W_isnt, ↓W_lenT, ↓W_lenN, ↓W_intI, ↓W_intB, ↓W_abs, ↓W_max2, ↓W_min2, ↓W_divmod, ↓W_tupleT, ↓W_tupleN, ↓W_listT, ↓W_eqI, ↓W_neI, ↓W_eqB, ↓W_neB, ↓W_ix0, ↓W_ix1, ↓W_ix2, ↓its_new, ↓its_tup, ↓lst_new, En.pick, List.filterMap_cons, List.filterMap_nil, tyN, tyM, isT, truD, En.isNon, startE, wipeE, List.map_cons, List.map_nil, List.length_cons, List.length_nil, List.cons_append, List.nil_append, List.replicate_succ, List.replicate_zero, List.getElem?_cons_succ, List.getElem?_cons_zero, List.set_cons_succ, List.set_cons_zero, Nat.reduceSub, Nat.reduceAdd, Nat.zero_add, Nat.reduceLeDiff, Nat.sub_self, Bool.not_true, Bool.not_false, Bool.true_and, Bool.and_true, Bool.false_and, Bool.and_false, Bool.or_true, Bool.true_or, Bool.false_or, Bool.or_false, Bool.false_eq_true, if_true, if_false, ite_true, ite_false, true_and, and_true, decide_true, decide_false, String.reduceBEq, beq_self_eq_true, bne_self_eq_false, Bool.or_self, Bool.and_self, reduceCtorEq, Option.some.injEq, Bool.decide_eq_true, decide_eq_true_eq]
      refine draw_spec (n := 3) hw rfl (by omega) (by omega) fun r S1 hr s1 w1 => ?_
      try simp only [↓W_sortSet, ↓W_slT, ↓W_var, ↓W_C, ↓W_bin, ↓W_un, ↓W_chain, ↓W_tru, ↓W_tst, ↓W_notT, ↓W_andT, ↓W_orT, ↓W_andV, ↓W_orV, ↓W_notV, ↓W_if, ↓W_nil, ↓W_cons, ↓W_tup, ↓W_lst, ↓W_call, ↓W_callK, ↓W_noPart, ↓W_part, ↓W_sl, ↓W_meth, ↓W_asg, ↓W_name, ↓W_gnil, ↓W_gcons, ↓W_gseq, ↓W_gsub, ↓W_expr, ↓W_ret, ↓W_retN, ↓W_sif, ↓W_next, ↓W_brk, ↓W_cont, ↓W_sbad, ↓W_seq, ↓W_par2, ↓W_par3, ↓W_for, ↓W_lc, ↓W_yes, ↓W_iseq, ↓W_ienum, ↓W_rng1, ↓W_rng2, ↓W_while, ↓W_fun, ↓W_subD, ↓W_addI, ↓W_addS, ↓W_addT, ↓W_mulI, ↓W_fdiv, ↓W_mod, ↓W_neg, ↓W_ord, ↓W_isi, ↓W_is, ↓W_isnt, ↓W_lenT, ↓W_lenN, ↓W_intI, ↓W_intB, ↓W_abs, ↓W_max2, ↓W_min2, ↓W_divmod, ↓W_tupleT, ↓W_tupleN, ↓W_listT, ↓W_eqI, ↓W_neI, ↓W_eqB, ↓W_neB, ↓W_ix0, ↓W_ix1, ↓W_ix2, ↓its_new, ↓its_tup, ↓lst_new, En.pick, List.filterMap_cons, List.filterMap_nil, tyN, tyM, isT, truD, En.isNon, startE, wipeE, List.map_cons, List.map_nil, List.length_cons, List.length_nil, List.cons_append, List.nil_append, List.replicate_succ, List.replicate_zero, List.getElem?_cons_succ, List.getElem?_cons_zero, List.set_cons_succ, List.set_cons_zero, Nat.reduceSub, Nat.reduceAdd, Nat.zero_add, Nat.reduceLeDiff, Nat.sub_self, Bool.not_true, Bool.not_false, Bool.true_and, Bool.and_true, Bool.false_and, Bool.and_false, Bool.or_true, Bool.true_or, Bool.false_or, Bool.or_false, Bool.false_eq_true, if_true, if_false, ite_true, ite_false, true_and, and_true, decide_true, decide_false, String.reduceBEq, beq_self_eq_true, bne_self_eq_false, Bool.or_self, Bool.and_self, reduceCtorEq, Option.some.injEq, Bool.decide_eq_true, decide_eq_true_eq]
      by_cases cr : (0 : Int) < (r : Int)
      · simp only [cr, ↓W_sortSet, ↓W_slT, ↓W_var, ↓W_C, ↓W_bin, ↓W_un, ↓W_chain, ↓W_tru, ↓W_tst, ↓W_notT, ↓W_andT, ↓W_orT, ↓W_andV, ↓W_orV, ↓W_notV, ↓W_if, ↓W_nil, ↓W_cons, ↓W_tup, ↓W_lst, ↓W_call, ↓W_callK, ↓W_noPart, ↓W_part, ↓W_sl, ↓W_meth, ↓W_asg, ↓W_name, ↓W_gnil, ↓W_gcons, ↓W_gseq, ↓W_gsub, ↓W_expr, ↓W_ret, ↓W_retN, ↓W_sif, ↓W_next, ↓W_brk, ↓W_cont, ↓W_sbad, ↓W_seq, ↓W_par2, ↓W_par3, ↓W_for, ↓W_lc, ↓W_yes, ↓W_iseq, ↓W_ienum, ↓W_rng1, ↓W_rng2, ↓W_while, ↓W_fun, ↓W_subD, ↓W_addI, ↓W_addS, ↓W_addT, ↓W_mulI, ↓W_fdiv, ↓W_mod, ↓W_neg, ↓W_ord, ↓W_isi, ↓W_is, ↓W_isnt, ↓W_lenT, ↓W_lenN, ↓W_intI, ↓W_intB, ↓W_abs, ↓W_max2, ↓W_min2, ↓W_divmod, ↓W_tupleT, ↓W_tupleN, ↓W_listT, ↓W_eqI, ↓W_neI, ↓W_eqB, ↓W_neB, ↓W_ix0, ↓W_ix1, ↓W_ix2, ↓its_new, ↓its_tup, ↓lst_new, En.pick, List.filterMap_cons, List.filterMap_nil, tyN, tyM, isT, truD, En.isNon, startE, wipeE, List.map_cons, List.map_nil, List.length_cons, List.length_nil, List.cons_append, List.nil_append, List.replicate_succ, List.replicate_zero, List.getElem?_cons_succ, List.getElem?_cons_zero, List.set_cons_succ, List.set_cons_zero, Nat.reduceSub, Nat.reduceAdd, Nat.zero_add, Nat.reduceLeDiff, Nat.sub_self, Bool.not_true, Bool.not_false, Bool.true_and, Bool.and_true, Bool.false_and, Bool.and_false, Bool.or_true, Bool.true_or, Bool.false_or, Bool.or_false, Bool.false_eq_true, if_true, if_false, ite_true, ite_false, true_and, and_true, decide_true, decide_false, String.reduceBEq, beq_self_eq_true, bne_self_eq_false, Bool.or_self, Bool.and_self, reduceCtorEq, Option.some.injEq, Bool.decide_eq_true, decide_eq_true_eq]
        exact ⟨by decide, (k, k), rfl, by show k < _; omega, by show k < _; omega, s1, w1⟩
      · simp only [cr, c5, ↓W_sortSet, ↓W_slT, ↓W_var, ↓W_C, ↓W_bin, ↓W_un, ↓W_chain, ↓W_tru, ↓W_tst, ↓W_notT, ↓W_andT, ↓W_orT, ↓W_andV, ↓W_orV, ↓W_notV, ↓W_if, ↓W_nil, ↓W_cons, ↓W_tup, ↓W_lst, ↓W_call, ↓W_callK, ↓W_noPart, ↓W_part, ↓W_sl, ↓W_meth, ↓W_asg, ↓W_name, ↓W_gnil, ↓W_gcons, ↓W_gseq, ↓W_gsub, ↓W_expr, ↓W_ret, ↓W_retN, ↓W_sif, ↓W_next, ↓W_brk, ↓W_cont, ↓W_sbad, ↓W_seq, ↓W_par2, ↓W_par3, ↓W_for, ↓W_lc, ↓W_yes, ↓W_iseq, ↓W_ienum, ↓W_rng1, ↓W_rng2, ↓W_while, ↓W_fun, ↓W_subD, ↓W_addI, ↓W_addS, ↓W_addT, ↓W_mulI, ↓W_fdiv, ↓W_mod, ↓W_neg, ↓W_ord, ↓W_isi, ↓W_is, ↓W_isnt, ↓W_lenT, ↓W_lenN, ↓W_intI, ↓W_intB, ↓W_abs, ↓W_max2, ↓W_min2, ↓W_divmod, ↓W_tupleT, ↓W_tupleN, ↓W_listT, ↓W_eqI, ↓W_neI, ↓W_eqB, ↓W_neB, ↓W_ix0, ↓W_ix1, ↓W_ix2, ↓its_new, ↓its_tup, ↓lst_new, En.pick, List.filterMap_cons, List.filterMap_nil, tyN, tyM, isT, truD, En.isNon, startE, wipeE, List.map_cons, List.map_nil, List.length_cons, List.length_nil, List.cons_append, List.nil_append, List.replicate_succ, List.replicate_zero, List.getElem?_cons_succ, List.getElem?_cons_zero, List.set_cons_succ, List.set_cons_zero, Nat.reduceSub, Nat.reduceAdd, Nat.zero_add, Nat.reduceLeDiff, Nat.sub_self, Bool.not_true, Bool.not_false, Bool.true_and, Bool.and_true, Bool.false_and, Bool.and_false, Bool.or_true, Bool.true_or, Bool.false_or, Bool.or_false, Bool.false_eq_true, if_true, if_false, ite_true, ite_false, true_and, and_true, decide_true, decide_false, String.reduceBEq, beq_self_eq_true, bne_self_eq_false, Bool.or_self, Bool.and_self, reduceCtorEq, Option.some.injEq, Bool.decide_eq_true, decide_eq_true_eq]
        exact ⟨z, rfl, h1, h2, s1, w1⟩
    · simp only [c3, ↓W_sortSet, ↓W_slT, ↓W_var, ↓W_C, ↓W_bin, ↓W_un, ↓W_chain, ↓W_tru, ↓W_tst, ↓W_notT, ↓W_andT, ↓W_orT, ↓W_andV, ↓W_orV, ↓W_notV, ↓W_if, ↓W_nil, ↓W_cons, ↓W_tup, ↓W_lst, ↓W_call, ↓W_callK, ↓W_noPart, ↓W_part, ↓W_sl, ↓W_meth, ↓W_asg, ↓W_name, ↓W_gnil, ↓W_gcons, ↓W_gseq, ↓W_gsub, ↓W_expr, ↓W_ret, ↓W_retN, ↓W_sif, ↓W_next, ↓W_brk, ↓W_cont, ↓W_sbad, ↓W_seq, ↓W_par2, ↓W_par3, ↓W_for, ↓W_lc, ↓W_yes, ↓W_iseq, ↓W_ienum, ↓W_rng1, ↓W_rng2, ↓W_while, ↓W_fun, ↓W_subD, ↓W_addI, ↓W_addS, ↓W_addT, ↓W_mulI, ↓W_fdiv, ↓W_mod, ↓W_neg, ↓W_ord, ↓W_isi, ↓W_is, ↓W_isnt, ↓W_lenT, ↓W_lenN, ↓W_intI, ↓W_intB, ↓W_abs, ↓W_max2, ↓W_min2, ↓W_divmod, ↓W_tupleT, ↓W_tupleN, ↓W_listT, ↓W_eqI, ↓W_neI, ↓W_eqB, ↓W_neB, ↓W_ix0, ↓W_ix1, ↓W_ix2, ↓its_new, ↓its_tup, ↓lst_new, En.pick, List.filterMap_cons, List.filterMap_nil, tyN, tyM, isT, truD, En.isNon, startE, wipeE, List.map_cons, List.map_nil, List.length_cons, List.length_nil, List.cons_append, List.nil_append, List.replicate_succ, List.replicate_zero, List.getElem?_cons_succ, List.getElem?_cons_zero, List.set_cons_succ, List.set_cons_zero, Nat.reduceSub, Nat.reduceAdd, Nat.zero_add, Nat.reduceLeDiff, Nat.sub_self, Bool.not_true, Bool.not_false, Bool.true_and, Bool.and_true, Bool.false_and, Bool.and_false, Bool.or_true, Bool.true_or, Bool.false_or, Bool.or_false, Bool.false_eq_true, if_true, if_false, ite_true, ite_false, true_and, and_true, decide_true, decide_false, String.reduceBEq, beq_self_eq_true, bne_self_eq_false, Bool.or_self, Bool.and_self, reduceCtorEq, Option.some.injEq, Bool.decide_eq_true, decide_eq_true_eq]
      by_cases c5 : ((kind : Int) == 5) = true
      · simp only [c5, ↓W_sortSet, ↓W_slT, ↓W_var, ↓W_C, ↓W_bin, ↓W_un, ↓W_chain, ↓W_tru, ↓W_tst, ↓W_notT, ↓W_andT, ↓W_orT, ↓W_andV, ↓W_orV, ↓W_notV, ↓W_if, ↓W_nil, ↓W_cons, ↓W_tup, ↓W_lst, ↓W_call, ↓W_callK, ↓W_noPart, ↓W_part, ↓W_sl, ↓W_meth, ↓W_asg, ↓W_name, ↓W_gnil, ↓W_gcons, ↓W_gseq, ↓W_gsub, ↓W_expr, ↓W_ret, ↓W_retN, ↓W_sif, ↓W_next, ↓W_brk, ↓W_cont, ↓W_sbad, ↓W_seq, ↓W_par2, ↓W_par3, ↓W_for, ↓W_lc, ↓W_yes, ↓W_iseq, ↓W_ienum, ↓W_rng1, ↓W_rng2, ↓W_while, ↓W_fun, ↓W_subD, ↓W_addI, ↓W_addS, ↓W_addT, ↓W_mulI, ↓W_fdiv, ↓W_mod, ↓W_neg, ↓W_ord, ↓W_isi, ↓W_is, ↓W_isnt, ↓W_lenT, ↓W_lenN, ↓W_intI, ↓W_intB, ↓W_abs, ↓W_max2, ↓W_min2, ↓W_divmod, ↓W_tupleT, ↓W_tupleN, ↓W_listT, ↓W_eqI, ↓W_neI, ↓W_eqB, ↓W_neB, ↓W_ix0, ↓W_ix1, ↓W_ix2, ↓its_new, ↓its_tup, ↓lst_new, En.pick, List.filterMap_cons, List.filterMap_nil, tyN, tyM, isT, truD, En.isNon, startE, wipeE, List.map_cons, List.map_nil, List.length_cons, List.length_nil, List.cons_append, List.nil_append, List.replicate_succ, List.replicate_zero, List.getElem?_cons_succ, List.getElem?_cons_zero, List.set_cons_succ, List.set_cons_zero, Nat.reduceSub, Nat.reduceAdd, Nat.zero_add, Nat.reduceLeDiff, Nat.sub_self, Bool.not_true, Bool.not_false, Bool.true_and, Bool.and_true, Bool.false_and, Bool.and_false, Bool.or_true, Bool.true_or, Bool.false_or, Bool.or_false, Bool.false_eq_true, if_true, if_false, ite_true, ite_false, true_and, and_true, decide_true, decide_false, String.reduceBEq, beq_self_eq_true, bne_self_eq_false, Bool.or_self, Bool.and_self, reduceCtorEq, Option.some.injEq, Bool.decide_eq_true, decide_eq_true_eq]
        exact ⟨by decide, (k, k), rfl, by show k < _; omega, by show k < _; omega, SubB.refl, hw⟩
      · simp only [c5, ↓W_sortSet, ↓W_slT, ↓W_var, ↓W_C, ↓W_bin, ↓W_un, ↓W_chain, ↓W_tru, ↓W_tst, ↓W_notT, ↓W_andT, ↓W_orT, ↓W_andV, ↓W_orV, ↓W_notV, ↓W_if, ↓W_nil, ↓W_cons, ↓W_tup, ↓W_lst, ↓W_call, ↓W_callK, ↓W_noPart, ↓W_part, ↓W_sl, ↓W_meth, ↓W_asg, ↓W_name, ↓W_gnil, ↓W_gcons, ↓W_gseq, ↓W_gsub, ↓W_expr, ↓W_ret, ↓W_retN, ↓W_sif, ↓W_next, ↓W_brk, ↓W_cont, ↓W_sbad, ↓W_seq, ↓W_par2, ↓W_par3, ↓W_for, ↓W_lc, ↓W_yes, ↓W_iseq, ↓W_ienum, ↓W_rng1, ↓W_rng2, ↓W_while, ↓W_fun, ↓W_subD, ↓W_addI, ↓W_addS, ↓W_addT, ↓W_mulI, ↓W_fdiv, ↓W_mod, ↓W_neg, ↓W_ord, ↓W_isi, ↓W_is, ↓W_isnt, ↓W_lenT, ↓W_lenN, ↓W_intI, ↓W_intB, ↓W_abs, ↓W_max2, ↓W_min2, ↓W_divmod, ↓W_tupleT, ↓W_tupleN, ↓W_listT, ↓W_eqI, ↓W_neI, ↓W_eqB, ↓W_neB, ↓W_ix0, ↓W_ix1, ↓W_ix2, ↓its_new, ↓its_tup, ↓lst_new, En.pick, List.filterMap_cons, List.filterMap_nil, tyN, tyM, isT, truD, En.isNon, startE, wipeE, List.map_cons, List.map_nil, List.length_cons, List.length_nil, List.cons_append, List.nil_append, List.replicate_succ, List.replicate_zero, List.getElem?_cons_succ, List.getElem?_cons_zero, List.set_cons_succ, List.set_cons_zero, Nat.reduceSub, Nat.reduceAdd, Nat.zero_add, Nat.reduceLeDiff, Nat.sub_self, Bool.not_true, Bool.not_false, Bool.true_and, Bool.and_true, Bool.false_and, Bool.and_false, Bool.or_true, Bool.true_or, Bool.false_or, Bool.or_false, Bool.false_eq_true, if_true, if_false, ite_true, ite_false, true_and, and_true, decide_true, decide_false, String.reduceBEq, beq_self_eq_true, bne_self_eq_false, Bool.or_self, Bool.and_self, reduceCtorEq, Option.some.injEq, Bool.decide_eq_true, decide_eq_true_eq]
        exact ⟨z, rfl, h1, h2, SubB.refl, hw⟩
  · rintro o S1 ⟨z1, rfl, h1, h2, s1, w1⟩
    simp only
    rw [W_seq]
    have e1 := s1.2 _ _ hcb e
    refine W.imp (Q := fun o S2 => ∃ z1 : Nat × Nat, o = .next [some (.loc b), some d1, some (natD kind), some (.tup (ps.map pairD)), some (tupI v), some (natD k), some (.loc c), x7, x8, some (pairD z1)] ∧ z1.1 < v.length ∧ z1.2 < v.length ∧ SubB b S S2 ∧ Bowl b S2) ?_ ?_
    · try simp only [↓W_sortSet, ↓W_slT, ↓W_var, ↓W_C, ↓W_bin, ↓W_un, ↓W_chain, ↓W_tru, ↓W_tst, ↓W_notT, ↓W_andT, ↓W_orT, ↓W_andV, ↓W_orV, ↓W_notV, ↓W_if, ↓W_nil, ↓W_cons, ↓W_tup, ↓W_lst, ↓W_call, ↓W_callK, ↓W_noPart, ↓W_part, ↓W_sl, ↓W_meth, ↓W_asg, ↓W_name, ↓W_gnil, ↓W_gcons, ↓W_gseq, ↓W_gsub, ↓W_expr, ↓W_ret, ↓W_retN, ↓W_sif, ↓W_next, ↓W_brk, ↓W_cont, ↓W_sbad, ↓W_seq, ↓W_par2, ↓W_par3, ↓W_for, ↓W_lc, ↓W_yes, ↓W_iseq, ↓W_ienum, ↓W_rng1, ↓W_rng2, ↓W_while, ↓W_fun, ↓W_subD, ↓W_addI, ↓W_addS, ↓W_addT, ↓W_mulI, ↓W_fdiv, ↓W_mod, ↓W_neg, ↓W_ord, ↓W_isi, ↓W_is, ↓W_isnt, ↓W_lenT, ↓W_lenN, ↓W_intI, ↓W_intB, ↓W_abs, ↓W_max2, ↓W_min2, ↓W_divmod, ↓W_tupleT, ↓W_tupleN, ↓W_listT, ↓W_eqI, ↓W_neI, ↓W_eqB, ↓W_neB, ↓W_ix0, ↓W_ix1, ↓W_ix2, ↓its_new, ↓its_tup, ↓lst_new, En.pick, List.filterMap_cons, List.filterMap_nil, tyN, tyM, isT, truD, En.isNon, startE, wipeE, List.map_cons, List.map_nil, List.length_cons, List.length_nil, List.cons_append, List.nil_append, List.replicate_succ, List.replicate_zero, List.getElem?_cons_succ, List.getElem?_cons_zero, List.set_cons_succ, List.set_cons_zero, Nat.reduceSub, Nat.reduceAdd, Nat.zero_add, Nat.reduceLeDiff, Nat.sub_self, Bool.not_true, Bool.not_false, Bool.true_and, Bool.and_true, Bool.false_and, Bool.and_false, Bool.or_true, Bool.true_or, Bool.false_or, Bool.or_false, Bool.false_eq_true, if_true, if_false, ite_true, ite_false, true_and, and_true, decide_true, decide_false, String.reduceBEq, beq_self_eq_true, bne_self_eq_false, Bool.or_self, Bool.and_self, reduceCtorEq, Option.some.injEq, Bool.decide_eq_true, decide_eq_true_eq]
      by_cases c4 : ((kind : Int) == 4) = true
      · simp only [c4, its_at e1, ↓W_sortSet, ↓W_slT, ↓W_var, ↓W_C, ↓W_bin, ↓W_un, ↓W_chain, ↓W_tru, ↓W_tst, ↓W_notT, ↓W_andT, ↓W_orT, ↓W_andV, ↓W_orV, ↓W_notV, ↓W_if, ↓W_nil, ↓W_cons, ↓W_tup, ↓W_lst, ↓W_call, ↓W_callK, ↓W_noPart, ↓W_part, ↓W_sl, ↓W_meth, ↓W_asg, ↓W_name, ↓W_gnil, ↓W_gcons, ↓W_gseq, ↓W_gsub, ↓W_expr, ↓W_ret, ↓W_retN, ↓W_sif, ↓W_next, ↓W_brk, ↓W_cont, ↓W_sbad, ↓W_seq, ↓W_par2, ↓W_par3, ↓W_for, ↓W_lc, ↓W_yes, ↓W_iseq, ↓W_ienum, ↓W_rng1, ↓W_rng2, ↓W_while, ↓W_fun, ↓W_subD, ↓W_addI, ↓W_addS, ↓W_addT, ↓W_mulI, ↓W_fdiv, ↓W_mod, ↓W_neg, ↓W_ord, ↓W_isi, ↓W_is, ↓W_isnt, ↓W_lenT, ↓W_lenN, ↓W_intI, ↓W_intB, ↓W_abs, ↓W_max2, ↓W_min2, ↓W_divmod, ↓W_tupleT, ↓W_tupleN, ↓W_listT, ↓W_eqI, ↓W_neI, ↓W_eqB, ↓W_neB, ↓W_ix0, ↓W_ix1, ↓W_ix2, ↓its_new, ↓its_tup, ↓lst_new, En.pick, List.filterMap_cons, List.filterMap_nil, tyN, tyM, isT, truD, En.isNon, startE, wipeE, List.map_cons, List.map_nil, List.length_cons, List.length_nil, List.cons_append, List.nil_append, List.replicate_succ, List.replicate_zero, List.getElem?_cons_succ, List.getElem?_cons_zero, List.set_cons_succ, List.set_cons_zero, Nat.reduceSub, Nat.reduceAdd, Nat.zero_add, Nat.reduceLeDiff, Nat.sub_self, Bool.not_true, Bool.not_false, Bool.true_and, Bool.and_true, Bool.false_and, Bool.and_false, Bool.or_true, Bool.true_or, Bool.false_or, Bool.or_false, Bool.false_eq_true, if_true, if_false, ite_true, ite_false, true_and, and_true, decide_true, decide_false, String.reduceBEq, beq_self_eq_true, bne_self_eq_false, Bool.or_self, Bool.and_self, reduceCtorEq, Option.some.injEq, Bool.decide_eq_true, decide_eq_true_eq]
        refine W_lcM (c := pairD) (v := fun y => .tup [.int (at' v y.1 + at' v y.2), natD y.1, natD y.2]) (grd_of (its_at e1)) (fun y hy S2 s2 => ?_) fun S2 s2 => ⟨by rw [List.length_map]; exact le_lim hzl, ?_⟩
        · have hy' := hm y hy
          simp only [pairD, tupI, ↓W_sortSet, ↓W_slT, ↓W_var, ↓W_C, ↓W_bin, ↓W_un, ↓W_chain, ↓W_tru, ↓W_tst, ↓W_notT, ↓W_andT, ↓W_orT, ↓W_andV, ↓W_orV, ↓W_notV, ↓W_if, ↓W_nil, ↓W_cons, ↓W_tup, ↓W_lst, ↓W_call, ↓W_callK, ↓W_noPart, ↓W_part, ↓W_sl, ↓W_meth, ↓W_asg, ↓W_name, ↓W_gnil, ↓W_gcons, ↓W_gseq, ↓W_gsub, ↓W_expr, ↓W_ret, ↓W_retN, ↓W_sif, ↓W_next, ↓W_brk, ↓W_cont, ↓W_sbad, ↓W_seq, ↓W_par2, ↓W_par3, ↓W_for, ↓W_lc, ↓W_yes, ↓W_iseq, ↓W_ienum, ↓W_rng1, ↓W_rng2, ↓W_while, ↓W_fun, ↓W_subD, ↓W_addI, ↓W_addS, ↓W_addT, ↓W_mulI, ↓W_fdiv, ↓W_mod, ↓W_neg, ↓W_ord, ↓W_isi, ↓W_is, ↓W_isnt, ↓W_lenT, ↓W_lenN, ↓W_intI, ↓W_intB, ↓W_abs, ↓W_max2, ↓W_min2, ↓W_divmod, ↓W_tupleT, ↓W_tupleN, ↓W_listT, ↓W_eqI, ↓W_neI, ↓W_eqB, ↓W_neB, ↓W_ix0, ↓W_ix1, ↓W_ix2, ↓its_new, ↓its_tup, ↓lst_new, En.pick, List.filterMap_cons, List.filterMap_nil, tyN, tyM, isT, truD, En.isNon, startE, wipeE, List.map_cons, List.map_nil, List.length_cons, List.length_nil, List.cons_append, List.nil_append, List.replicate_succ, List.replicate_zero, List.getElem?_cons_succ, List.getElem?_cons_zero, List.set_cons_succ, List.set_cons_zero, Nat.reduceSub, Nat.reduceAdd, Nat.zero_add, Nat.reduceLeDiff, Nat.sub_self, Bool.not_true, Bool.not_false, Bool.true_and, Bool.and_true, Bool.false_and, Bool.and_false, Bool.or_true, Bool.true_or, Bool.false_or, Bool.or_false, Bool.false_eq_true, if_true, if_false, ite_true, ite_false, true_and, and_true, decide_true, decide_false, String.reduceBEq, beq_self_eq_true, bne_self_eq_false, Bool.or_self, Bool.and_self, reduceCtorEq, Option.some.injEq, Bool.decide_eq_true, decide_eq_true_eq]
          rw [W_ixN its_tup (int_at hy'.1)]
          try simp only [↓W_sortSet, ↓W_slT, ↓W_var, ↓W_C, ↓W_bin, ↓W_un, ↓W_chain, ↓W_tru, ↓W_tst, ↓W_notT, ↓W_andT, ↓W_orT, ↓W_andV, ↓W_orV, ↓W_notV, ↓W_if, ↓W_nil, ↓W_cons, ↓W_tup, ↓W_lst, ↓W_call, ↓W_callK, ↓W_noPart, ↓W_part, ↓W_sl, ↓W_meth, ↓W_asg, ↓W_name, ↓W_gnil, ↓W_gcons, ↓W_gseq, ↓W_gsub, ↓W_expr, ↓W_ret, ↓W_retN, ↓W_sif, ↓W_next, ↓W_brk, ↓W_cont, ↓W_sbad, ↓W_seq, ↓W_par2, ↓W_par3, ↓W_for, ↓W_lc, ↓W_yes, ↓W_iseq, ↓W_ienum, ↓W_rng1, ↓W_rng2, ↓W_while, ↓W_fun, ↓W_subD, ↓W_addI, ↓W_addS, ↓W_addT, ↓W_mulI, ↓W_fdiv, ↓W_mod, ↓W_neg, ↓W_ord, ↓W_isi, ↓W_is, ↓W_isnt, ↓W_lenT, ↓W_lenN, ↓W_intI, ↓W_intB, ↓W_abs, ↓W_max2, ↓W_min2, ↓W_divmod, ↓W_tupleT, ↓W_tupleN, ↓W_listT, ↓W_eqI, ↓W_neI, ↓W_eqB, ↓W_neB, ↓W_ix0, ↓W_ix1, ↓W_ix2, ↓its_new, ↓its_tup, ↓lst_new, En.pick, List.filterMap_cons, List.filterMap_nil, tyN, tyM, isT, truD, En.isNon, startE, wipeE, List.map_cons, List.map_nil, List.length_cons, List.length_nil, List.cons_append, List.nil_append, List.replicate_succ, List.replicate_zero, List.getElem?_cons_succ, List.getElem?_cons_zero, List.set_cons_succ, List.set_cons_zero, Nat.reduceSub, Nat.reduceAdd, Nat.zero_add, Nat.reduceLeDiff, Nat.sub_self, Bool.not_true, Bool.not_false, Bool.true_and, Bool.and_true, Bool.false_and, Bool.and_false, Bool.or_true, Bool.true_or, Bool.false_or, Bool.or_false, Bool.false_eq_true, if_true, if_false, ite_true, ite_false, true_and, and_true, decide_true, decide_false, String.reduceBEq, beq_self_eq_true, bne_self_eq_false, Bool.or_self, Bool.and_self, reduceCtorEq, Option.some.injEq, Bool.decide_eq_true, decide_eq_true_eq]
          rw [W_ixN its_tup (int_at hy'.2)]
          try simp only [↓W_sortSet, ↓W_slT, ↓W_var, ↓W_C, ↓W_bin, ↓W_un, ↓W_chain, ↓W_tru, ↓W_tst, ↓W_notT, ↓W_andT, ↓W_orT, ↓W_andV, ↓W_orV, ↓W_notV, ↓W_if, ↓W_nil, ↓W_cons, ↓W_tup, ↓W_lst, ↓W_call, ↓W_callK, ↓W_noPart, ↓W_part, ↓W_sl, ↓W_meth, ↓W_asg, ↓W_name, ↓W_gnil, ↓W_gcons, ↓W_gseq, ↓W_gsub, ↓W_expr, ↓W_ret, ↓W_retN, ↓W_sif, ↓W_next, ↓W_brk, ↓W_cont, ↓W_sbad, ↓W_seq, ↓W_par2, ↓W_par3, ↓W_for, ↓W_lc, ↓W_yes, ↓W_iseq, ↓W_ienum, ↓W_rng1, ↓W_rng2, ↓W_while, ↓W_fun, ↓W_subD, ↓W_addI, ↓W_addS, ↓W_addT, ↓W_mulI, ↓W_fdiv, ↓W_mod, ↓W_neg, ↓W_ord, ↓W_isi, ↓W_is, ↓W_isnt, ↓W_lenT, ↓W_lenN, ↓W_intI, ↓W_intB, ↓W_abs, ↓W_max2, ↓W_min2, ↓W_divmod, ↓W_tupleT, ↓W_tupleN, ↓W_listT, ↓W_eqI, ↓W_neI, ↓W_eqB, ↓W_neB, ↓W_ix0, ↓W_ix1, ↓W_ix2, ↓its_new, ↓its_tup, ↓lst_new, En.pick, List.filterMap_cons, List.filterMap_nil, tyN, tyM, isT, truD, En.isNon, startE, wipeE, List.map_cons, List.map_nil, List.length_cons, List.length_nil, List.cons_append, List.nil_append, List.replicate_succ, List.replicate_zero, List.getElem?_cons_succ, List.getElem?_cons_zero, List.set_cons_succ, List.set_cons_zero, Nat.reduceSub, Nat.reduceAdd, Nat.zero_add, Nat.reduceLeDiff, Nat.sub_self, Bool.not_true, Bool.not_false, Bool.true_and, Bool.and_true, Bool.false_and, Bool.and_false, Bool.or_true, Bool.true_or, Bool.false_or, Bool.or_false, Bool.false_eq_true, if_true, if_false, ite_true, ite_false, true_and, and_true, decide_true, decide_false, String.reduceBEq, beq_self_eq_true, bne_self_eq_false, Bool.or_self, Bool.and_self, reduceCtorEq, Option.some.injEq, Bool.decide_eq_true, decide_eq_true_eq]
          exact ⟨by decide, Sub.refl⟩
        · obtain ⟨y0, r0, hyr⟩ := List.exists_cons_of_ne_nil hz0
          rw [hyr, List.map_cons]
          refine W_minL (e := .tup [.int (at' v y0.1 + at' v y0.2), natD y0.1, natD y0.2]) (es := r0.map fun y => D.tup [.int (at' v y.1 + at' v y.2), natD y.1, natD y.2]) lst_new ?_ ?_
          · intro d hd
            rw [← List.map_cons (f := fun y : Nat × Nat => D.tup [.int (at' v y.1 + at' v y.2), natD y.1, natD y.2])] at hd
            obtain ⟨y, hy, rfl⟩ := List.mem_map.mp hd
            exact ⟨_, _, _, rfl⟩
          · intro d hd
            rw [← List.map_cons (f := fun y : Nat × Nat => D.tup [.int (at' v y.1 + at' v y.2), natD y.1, natD y.2])] at hd
            obtain ⟨y, hy, rfl⟩ := List.mem_map.mp hd
            have hy' := hm y (by rw [hyr]; exact hy)
            simp only [W_slT, ↓W_sortSet, ↓W_slT, ↓W_var, ↓W_C, ↓W_bin, ↓W_un, ↓W_chain, ↓W_tru, ↓W_tst, ↓W_notT, ↓W_andT, ↓W_orT, ↓W_andV, ↓W_orV, ↓W_notV, ↓W_if, ↓W_nil, ↓W_cons, ↓W_tup, ↓W_lst, ↓W_call, ↓W_callK, ↓W_noPart, ↓W_part, ↓W_sl, ↓W_meth, ↓W_asg, ↓W_name, ↓W_gnil, ↓W_gcons, ↓W_gseq, ↓W_gsub, ↓W_expr, ↓W_ret, ↓W_retN, ↓W_sif, ↓W_next, ↓W_brk, ↓W_cont, ↓W_sbad, ↓W_seq, ↓W_par2, ↓W_par3, ↓W_for, ↓W_lc, ↓W_yes, ↓W_iseq, ↓W_ienum, ↓W_rng1, ↓W_rng2, ↓W_while, ↓W_fun, ↓W_subD, ↓W_addI, ↓W_addS, ↓W_addT, ↓W_mulI, ↓W_fdiv, ↓W_mod, ↓W_neg, ↓W_ord, ↓W_isi, ↓W_is, ↓W_isnt, ↓W_lenT, ↓W_lenN, ↓W_intI, ↓W_intB, ↓W_abs, ↓W_max2, ↓W_min2, ↓W_divmod, ↓W_tupleT, ↓W_tupleN, ↓W_listT, ↓W_eqI, ↓W_neI, ↓W_eqB, ↓W_neB, ↓W_ix0, ↓W_ix1, ↓W_ix2, ↓its_new, ↓its_tup, ↓lst_new, En.pick, List.filterMap_cons, List.filterMap_nil, tyN, tyM, isT, truD, En.isNon, startE, wipeE, List.map_cons, List.map_nil, List.length_cons, List.length_nil, List.cons_append, List.nil_append, List.replicate_succ, List.replicate_zero, List.getElem?_cons_succ, List.getElem?_cons_zero, List.set_cons_succ, List.set_cons_zero, Nat.reduceSub, Nat.reduceAdd, Nat.zero_add, Nat.reduceLeDiff, Nat.sub_self, Bool.not_true, Bool.not_false, Bool.true_and, Bool.and_true, Bool.false_and, Bool.and_false, Bool.or_true, Bool.true_or, Bool.false_or, Bool.or_false, Bool.false_eq_true, if_true, if_false, ite_true, ite_false, true_and, and_true, decide_true, decide_false, String.reduceBEq, beq_self_eq_true, bne_self_eq_false, Bool.or_self, Bool.and_self, reduceCtorEq, Option.some.injEq, Bool.decide_eq_true, decide_eq_true_eq]
            exact ⟨y, rfl, hy'.1, hy'.2, s1.trans s2.new.b, w1.sub s2.new⟩
      · simp only [c4, ↓W_sortSet, ↓W_slT, ↓W_var, ↓W_C, ↓W_bin, ↓W_un, ↓W_chain, ↓W_tru, ↓W_tst, ↓W_notT, ↓W_andT, ↓W_orT, ↓W_andV, ↓W_orV, ↓W_notV, ↓W_if, ↓W_nil, ↓W_cons, ↓W_tup, ↓W_lst, ↓W_call, ↓W_callK, ↓W_noPart, ↓W_part, ↓W_sl, ↓W_meth, ↓W_asg, ↓W_name, ↓W_gnil, ↓W_gcons, ↓W_gseq, ↓W_gsub, ↓W_expr, ↓W_ret, ↓W_retN, ↓W_sif, ↓W_next, ↓W_brk, ↓W_cont, ↓W_sbad, ↓W_seq, ↓W_par2, ↓W_par3, ↓W_for, ↓W_lc, ↓W_yes, ↓W_iseq, ↓W_ienum, ↓W_rng1, ↓W_rng2, ↓W_while, ↓W_fun, ↓W_subD, ↓W_addI, ↓W_addS, ↓W_addT, ↓W_mulI, ↓W_fdiv, ↓W_mod, ↓W_neg, ↓W_ord, ↓W_isi, ↓W_is, ↓W_isnt, ↓W_lenT, ↓W_lenN, ↓W_intI, ↓W_intB, ↓W_abs, ↓W_max2, ↓W_min2, ↓W_divmod, ↓W_tupleT, ↓W_tupleN, ↓W_listT, ↓W_eqI, ↓W_neI, ↓W_eqB, ↓W_neB, ↓W_ix0, ↓W_ix1, ↓W_ix2, ↓its_new, ↓its_tup, ↓lst_new, En.pick, List.filterMap_cons, List.filterMap_nil, tyN, tyM, isT, truD, En.isNon, startE, wipeE, List.map_cons, List.map_nil, List.length_cons, List.length_nil, List.cons_append, List.nil_append, List.replicate_succ, List.replicate_zero, List.getElem?_cons_succ, List.getElem?_cons_zero, List.set_cons_succ, List.set_cons_zero, Nat.reduceSub, Nat.reduceAdd, Nat.zero_add, Nat.reduceLeDiff, Nat.sub_self, Bool.not_true, Bool.not_false, Bool.true_and, Bool.and_true, Bool.false_and, Bool.and_false, Bool.or_true, Bool.true_or, Bool.false_or, Bool.or_false, Bool.false_eq_true, if_true, if_false, ite_true, ite_false, true_and, and_true, decide_true, decide_false, String.reduceBEq, beq_self_eq_true, bne_self_eq_false, Bool.or_self, Bool.and_self, reduceCtorEq, Option.some.injEq, Bool.decide_eq_true, decide_eq_true_eq]
        exact ⟨z1, rfl, h1, h2, s1, w1⟩
    · rintro o S2 ⟨z2, rfl, h1, h2, s2, w2⟩
      simp only [pairD, tupI, ↓W_sortSet, ↓W_slT, ↓W_var, ↓W_C, ↓W_bin, ↓W_un, ↓W_chain, ↓W_tru, ↓W_tst, ↓W_notT, ↓W_andT, ↓W_orT, ↓W_andV, ↓W_orV, ↓W_notV, ↓W_if, ↓W_nil, ↓W_cons, ↓W_tup, ↓W_lst, ↓W_call, ↓W_callK, ↓W_noPart, ↓W_part, ↓W_sl, ↓W_meth, ↓W_asg, ↓W_name, ↓W_gnil, ↓W_gcons, ↓W_gseq, ↓W_gsub, ↓W_expr, ↓W_ret, ↓W_retN, ↓W_sif, ↓W_next, ↓W_brk, ↓W_cont, ↓W_sbad, ↓W_seq, ↓W_par2, ↓W_par3, ↓W_for, ↓W_lc, ↓W_yes, ↓W_iseq, ↓W_ienum, ↓W_rng1, ↓W_rng2, ↓W_while, ↓W_fun, ↓W_subD, ↓W_addI, ↓W_addS, ↓W_addT, ↓W_mulI, ↓W_fdiv, ↓W_mod, ↓W_neg, ↓W_ord, ↓W_isi, ↓W_is, ↓W_isnt, ↓W_lenT, ↓W_lenN, ↓W_intI, ↓W_intB, ↓W_abs, ↓W_max2, ↓W_min2, ↓W_divmod, ↓W_tupleT, ↓W_tupleN, ↓W_listT, ↓W_eqI, ↓W_neI, ↓W_eqB, ↓W_neB, ↓W_ix0, ↓W_ix1, ↓W_ix2, ↓its_new, ↓its_tup, ↓lst_new, En.pick, List.filterMap_cons, List.filterMap_nil, tyN, tyM, isT, truD, En.isNon, startE, wipeE, List.map_cons, List.map_nil, List.length_cons, List.length_nil, List.cons_append, List.nil_append, List.replicate_succ, List.replicate_zero, List.getElem?_cons_succ, List.getElem?_cons_zero, List.set_cons_succ, List.set_cons_zero, Nat.reduceSub, Nat.reduceAdd, Nat.zero_add, Nat.reduceLeDiff, Nat.sub_self, Bool.not_true, Bool.not_false, Bool.true_and, Bool.and_true, Bool.false_and, Bool.and_false, Bool.or_true, Bool.true_or, Bool.false_or, Bool.or_false, Bool.false_eq_true, if_true, if_false, ite_true, ite_false, true_and, and_true, decide_true, decide_false, String.reduceBEq, beq_self_eq_true, bne_self_eq_false, Bool.or_self, Bool.and_self, reduceCtorEq, Option.some.injEq, Bool.decide_eq_true, decide_eq_true_eq]
      refine ⟨by decide, le_lim (by rw [List.length_map]; omega), ?_⟩
      rw [W_ixN its_tup (int_at h1)]
      try simp only [↓W_sortSet, ↓W_slT, ↓W_var, ↓W_C, ↓W_bin, ↓W_un, ↓W_chain, ↓W_tru, ↓W_tst, ↓W_notT, ↓W_andT, ↓W_orT, ↓W_andV, ↓W_orV, ↓W_notV, ↓W_if, ↓W_nil, ↓W_cons, ↓W_tup, ↓W_lst, ↓W_call, ↓W_callK, ↓W_noPart, ↓W_part, ↓W_sl, ↓W_meth, ↓W_asg, ↓W_name, ↓W_gnil, ↓W_gcons, ↓W_gseq, ↓W_gsub, ↓W_expr, ↓W_ret, ↓W_retN, ↓W_sif, ↓W_next, ↓W_brk, ↓W_cont, ↓W_sbad, ↓W_seq, ↓W_par2, ↓W_par3, ↓W_for, ↓W_lc, ↓W_yes, ↓W_iseq, ↓W_ienum, ↓W_rng1, ↓W_rng2, ↓W_while, ↓W_fun, ↓W_subD, ↓W_addI, ↓W_addS, ↓W_addT, ↓W_mulI, ↓W_fdiv, ↓W_mod, ↓W_neg, ↓W_ord, ↓W_isi, ↓W_is, ↓W_isnt, ↓W_lenT, ↓W_lenN, ↓W_intI, ↓W_intB, ↓W_abs, ↓W_max2, ↓W_min2, ↓W_divmod, ↓W_tupleT, ↓W_tupleN, ↓W_listT, ↓W_eqI, ↓W_neI, ↓W_eqB, ↓W_neB, ↓W_ix0, ↓W_ix1, ↓W_ix2, ↓its_new, ↓its_tup, ↓lst_new, En.pick, List.filterMap_cons, List.filterMap_nil, tyN, tyM, isT, truD, En.isNon, startE, wipeE, List.map_cons, List.map_nil, List.length_cons, List.length_nil, List.cons_append, List.nil_append, List.replicate_succ, List.replicate_zero, List.getElem?_cons_succ, List.getElem?_cons_zero, List.set_cons_succ, List.set_cons_zero, Nat.reduceSub, Nat.reduceAdd, Nat.zero_add, Nat.reduceLeDiff, Nat.sub_self, Bool.not_true, Bool.not_false, Bool.true_and, Bool.and_true, Bool.false_and, Bool.and_false, Bool.or_true, Bool.true_or, Bool.false_or, Bool.or_false, Bool.false_eq_true, if_true, if_false, ite_true, ite_false, true_and, and_true, decide_true, decide_false, String.reduceBEq, beq_self_eq_true, bne_self_eq_false, Bool.or_self, Bool.and_self, reduceCtorEq, Option.some.injEq, Bool.decide_eq_true, decide_eq_true_eq]
      rw [W_ixN its_tup (int_at h2)]
      try simp only [↓W_sortSet, ↓W_slT, ↓W_var, ↓W_C, ↓W_bin, ↓W_un, ↓W_chain, ↓W_tru, ↓W_tst, ↓W_notT, ↓W_andT, ↓W_orT, ↓W_andV, ↓W_orV, ↓W_notV, ↓W_if, ↓W_nil, ↓W_cons, ↓W_tup, ↓W_lst, ↓W_call, ↓W_callK, ↓W_noPart, ↓W_part, ↓W_sl, ↓W_meth, ↓W_asg, ↓W_name, ↓W_gnil, ↓W_gcons, ↓W_gseq, ↓W_gsub, ↓W_expr, ↓W_ret, ↓W_retN, ↓W_sif, ↓W_next, ↓W_brk, ↓W_cont, ↓W_sbad, ↓W_seq, ↓W_par2, ↓W_par3, ↓W_for, ↓W_lc, ↓W_yes, ↓W_iseq, ↓W_ienum, ↓W_rng1, ↓W_rng2, ↓W_while, ↓W_fun, ↓W_subD, ↓W_addI, ↓W_addS, ↓W_addT, ↓W_mulI, ↓W_fdiv, ↓W_mod, ↓W_neg, ↓W_ord, ↓W_isi, ↓W_is, ↓W_isnt, ↓W_lenT, ↓W_lenN, ↓W_intI, ↓W_intB, ↓W_abs, ↓W_max2, ↓W_min2, ↓W_divmod, ↓W_tupleT, ↓W_tupleN, ↓W_listT, ↓W_eqI, ↓W_neI, ↓W_eqB, ↓W_neB, ↓W_ix0, ↓W_ix1, ↓W_ix2, ↓its_new, ↓its_tup, ↓lst_new, En.pick, List.filterMap_cons, List.filterMap_nil, tyN, tyM, isT, truD, En.isNon, startE, wipeE, List.map_cons, List.map_nil, List.length_cons, List.length_nil, List.cons_append, List.nil_append, List.replicate_succ, List.replicate_zero, List.getElem?_cons_succ, List.getElem?_cons_zero, List.set_cons_succ, List.set_cons_zero, Nat.reduceSub, Nat.reduceAdd, Nat.zero_add, Nat.reduceLeDiff, Nat.sub_self, Bool.not_true, Bool.not_false, Bool.true_and, Bool.and_true, Bool.false_and, Bool.and_false, Bool.or_true, Bool.true_or, Bool.false_or, Bool.or_false, Bool.false_eq_true, if_true, if_false, ite_true, ite_false, true_and, and_true, decide_true, decide_false, String.reduceBEq, beq_self_eq_true, bne_self_eq_false, Bool.or_self, Bool.and_self, reduceCtorEq, Option.some.injEq, Bool.decide_eq_true, decide_eq_true_eq]
      refine ⟨by decide, le_lim (by rw [List.length_map]; omega), by decide, ?_⟩
      have := kk z2 S2 h1 h2 s2 w2
      unfold step tupI at this
      rw [List.map_append, List.map_append] at this
      exact this
end L_k07
namespace L_k07
open PySem L2 En
theorem rowGo_snoc : ∀ (ps : List (Nat × Nat)) (v : List Int) (z : Nat × Nat), rowGo (ps ++ [z]) v = step (rowGo ps v) z
  | [], v, z => rfl
  | y :: r, v, z => by rw [List.cons_append, rowGo, rowGo, rowGo_snoc r]
theorem W_in12 {kind : Nat} {S : Sto} {Q : D → Sto → Prop} : W (inD (natD kind) (.tup [.int 1, .int 2]) S) Q = Q (.bl (decide (kind = 1 ∨ kind = 2))) S := by
  have := @W_inI [1, 2] (kind : Int) S Q
  rw [show ([1, 2] : List Int).map D.int = [.int 1, .int 2] from rfl] at this
  rw [show natD kind = .int (kind : Int) from rfl, this]
  congr 2
  rw [Bool.eq_iff_iff, List.contains_iff_mem, decide_eq_true_eq]
  simp; omega
theorem plan_spec {b most : Nat} {S : Sto} {Q : D → Sto → Prop} (hw : Bowl b S) (hm : most ≤ 29) (k : ∀ ps S', Plan 1 ps → ps.length ≤ most → SubB b S S' → Bowl b S' → Q (.tup (ps.map pairD)) S') : W (m__law_plan [.loc b, natD most] S) Q := by
  unfold m__law_plan
  generalize hT : sSeq t1 (sSeq t2 t3) = T
  simp only [↓W_sortSet, ↓W_slT, ↓W_var, ↓W_C, ↓W_bin, ↓W_un, ↓W_chain, ↓W_tru, ↓W_tst, ↓W_notT, ↓W_andT, ↓W_orT, ↓W_andV, ↓W_orV, ↓W_notV, ↓W_if, ↓W_nil, ↓W_cons, ↓W_tup, ↓W_lst, ↓W_call, ↓W_callK, ↓W_noPart, ↓W_part, ↓W_sl, ↓W_meth, ↓W_asg, ↓W_name, ↓W_gnil, ↓W_gcons, ↓W_gseq, ↓W_gsub, ↓W_expr, ↓W_ret, ↓W_retN, ↓W_sif, ↓W_next, ↓W_brk, ↓W_cont, ↓W_sbad, ↓W_seq, ↓W_par2, ↓W_par3, ↓W_for, ↓W_lc, ↓W_yes, ↓W_iseq, ↓W_ienum, ↓W_rng1, ↓W_rng2, ↓W_while, ↓W_fun, ↓W_subD, ↓W_addI, ↓W_addS, ↓W_addT, ↓W_mulI, ↓W_fdiv, ↓W_mod, ↓W_neg, ↓W_ord, ↓W_is, ↓W_isnt, ↓W_lenT, ↓W_lenN, ↓W_intI, ↓W_intB, ↓W_abs, ↓W_max2, ↓W_min2, ↓W_divmod, ↓W_tupleT, ↓W_tupleN, ↓W_listT, ↓W_eqI, ↓W_neI, ↓W_eqB, ↓W_neB, ↓W_ix0, ↓W_ix1, ↓W_ix2, ↓its_new, ↓its_tup, ↓lst_new, En.pick, List.filterMap_cons, List.filterMap_nil, tyM, truD, En.isNon, startE, wipeE, List.map_cons, List.map_nil, List.length_cons, List.length_nil, List.cons_append, List.nil_append, List.replicate_succ, List.replicate_zero, List.getElem?_cons_succ, List.getElem?_cons_zero, List.set_cons_succ, List.set_cons_zero, Nat.reduceSub, Nat.reduceAdd, Nat.zero_add, Nat.reduceLeDiff, Nat.sub_self, Bool.not_true, Bool.not_false, Bool.true_and, Bool.and_true, Bool.false_and, Bool.and_false, Bool.or_true, Bool.true_or, Bool.false_or, Bool.or_false, Bool.false_eq_true, if_true, if_false, ite_true, ite_false, true_and, and_true, decide_true, decide_false, String.reduceBEq, beq_self_eq_true, bne_self_eq_false, Bool.or_self, Bool.and_self, reduceCtorEq, Option.some.injEq, Bool.decide_eq_true, decide_eq_true_eq]
  refine draw_spec (n := 6) hw rfl (by omega) (by omega) fun kind S1 hk s1 w1 => ?_
  try simp only [↓W_sortSet, ↓W_slT, ↓W_var, ↓W_C, ↓W_bin, ↓W_un, ↓W_chain, ↓W_tru, ↓W_tst, ↓W_notT, ↓W_andT, ↓W_orT, ↓W_andV, ↓W_orV, ↓W_notV, ↓W_if, ↓W_nil, ↓W_cons, ↓W_tup, ↓W_lst, ↓W_call, ↓W_callK, ↓W_noPart, ↓W_part, ↓W_sl, ↓W_meth, ↓W_asg, ↓W_name, ↓W_gnil, ↓W_gcons, ↓W_gseq, ↓W_gsub, ↓W_expr, ↓W_ret, ↓W_retN, ↓W_sif, ↓W_next, ↓W_brk, ↓W_cont, ↓W_sbad, ↓W_seq, ↓W_par2, ↓W_par3, ↓W_for, ↓W_lc, ↓W_yes, ↓W_iseq, ↓W_ienum, ↓W_rng1, ↓W_rng2, ↓W_while, ↓W_fun, ↓W_subD, ↓W_addI, ↓W_addS, ↓W_addT, ↓W_mulI, ↓W_fdiv, ↓W_mod, ↓W_neg, ↓W_ord, ↓W_isi, ↓W_is, ↓W_isnt, ↓W_lenT, ↓W_lenN, ↓W_intI, ↓W_intB, ↓W_abs, ↓W_max2, ↓W_min2, ↓W_divmod, ↓W_tupleT, ↓W_tupleN, ↓W_listT, ↓W_eqI, ↓W_neI, ↓W_eqB, ↓W_neB, ↓W_ix0, ↓W_ix1, ↓W_ix2, ↓its_new, ↓its_tup, ↓lst_new, En.pick, List.filterMap_cons, List.filterMap_nil, tyN, tyM, isT, truD, En.isNon, startE, wipeE, List.map_cons, List.map_nil, List.length_cons, List.length_nil, List.cons_append, List.nil_append, List.replicate_succ, List.replicate_zero, List.getElem?_cons_succ, List.getElem?_cons_zero, List.set_cons_succ, List.set_cons_zero, Nat.reduceSub, Nat.reduceAdd, Nat.zero_add, Nat.reduceLeDiff, Nat.sub_self, Bool.not_true, Bool.not_false, Bool.true_and, Bool.and_true, Bool.false_and, Bool.and_false, Bool.or_true, Bool.true_or, Bool.false_or, Bool.or_false, Bool.false_eq_true, if_true, if_false, ite_true, ite_false, true_and, and_true, decide_true, decide_false, String.reduceBEq, beq_self_eq_true, bne_self_eq_false, Bool.or_self, Bool.and_self, reduceCtorEq, Option.some.injEq, Bool.decide_eq_true, decide_eq_true_eq]
  refine ⟨by decide, by decide, by decide, ?_⟩
  refine draw_spec (n := most + 1) w1 (by omega) (by omega) (by omega) fun far S2 hf s2 w2 => ?_
  try simp only [↓W_sortSet, ↓W_slT, ↓W_var, ↓W_C, ↓W_bin, ↓W_un, ↓W_chain, ↓W_tru, ↓W_tst, ↓W_notT, ↓W_andT, ↓W_orT, ↓W_andV, ↓W_orV, ↓W_notV, ↓W_if, ↓W_nil, ↓W_cons, ↓W_tup, ↓W_lst, ↓W_call, ↓W_callK, ↓W_noPart, ↓W_part, ↓W_sl, ↓W_meth, ↓W_asg, ↓W_name, ↓W_gnil, ↓W_gcons, ↓W_gseq, ↓W_gsub, ↓W_expr, ↓W_ret, ↓W_retN, ↓W_sif, ↓W_next, ↓W_brk, ↓W_cont, ↓W_sbad, ↓W_seq, ↓W_par2, ↓W_par3, ↓W_for, ↓W_lc, ↓W_yes, ↓W_iseq, ↓W_ienum, ↓W_rng1, ↓W_rng2, ↓W_while, ↓W_fun, ↓W_subD, ↓W_addI, ↓W_addS, ↓W_addT, ↓W_mulI, ↓W_fdiv, ↓W_mod, ↓W_neg, ↓W_ord, ↓W_isi, ↓W_is, ↓W_isnt, ↓W_lenT, ↓W_lenN, ↓W_intI, ↓W_intB, ↓W_abs, ↓W_max2, ↓W_min2, ↓W_divmod, ↓W_tupleT, ↓W_tupleN, ↓W_listT, ↓W_eqI, ↓W_neI, ↓W_eqB, ↓W_neB, ↓W_ix0, ↓W_ix1, ↓W_ix2, ↓its_new, ↓its_tup, ↓lst_new, En.pick, List.filterMap_cons, List.filterMap_nil, tyN, tyM, isT, truD, En.isNon, startE, wipeE, List.map_cons, List.map_nil, List.length_cons, List.length_nil, List.cons_append, List.nil_append, List.replicate_succ, List.replicate_zero, List.getElem?_cons_succ, List.getElem?_cons_zero, List.set_cons_succ, List.set_cons_zero, Nat.reduceSub, Nat.reduceAdd, Nat.zero_add, Nat.reduceLeDiff, Nat.sub_self, Bool.not_true, Bool.not_false, Bool.true_and, Bool.and_true, Bool.false_and, Bool.and_false, Bool.or_true, Bool.true_or, Bool.false_or, Bool.or_false, Bool.false_eq_true, if_true, if_false, ite_true, ite_false, true_and, and_true, decide_true, decide_false, String.reduceBEq, beq_self_eq_true, bne_self_eq_false, Bool.or_self, Bool.and_self, reduceCtorEq, Option.some.injEq, Bool.decide_eq_true, decide_eq_true_eq]
  refine ⟨by omega, ?_⟩
  rw [show ((far : Int)).toNat = far from by simp, rng0]
  refine W_forI (c := fun i : Nat => D.int (i : Int)) (fun (r : List Nat) (ρ : En.Env) (S3 : Sto) => SubB b S S3 ∧ Bowl b S3 ∧ ∃ (ps : List (Nat × Nat)) (n : Nat) (x5 x6 x7 x8 x9 : Option D), r = List.range' ps.length n ∧ ps.length + n = far ∧ Plan 1 ps ∧ Pos (rowBy ps) ∧ ρ = [some (.loc b), some (natD most), some (natD kind), some (.tup (ps.map pairD)), some (tupI (rowBy ps)), x5, x6, x7, x8, x9]) ?_ ?_ (List.range far) _ S2 ⟨s1.trans s2, w2, [], far, _, _, _, _, _, List.range_eq_range', by simp, (fun k a c e => nomatch e), ?_, rfl⟩
  · rintro x r ρ S3 ⟨s3, w3, ps, n, x5, x6, x7, x8, x9, er, en, hpl, hpos, rfl⟩
    obtain ⟨m, rfl, rfl, rfl⟩ := range_cons er
    refine ⟨rfl, ?_⟩
    have lv : (rowBy ps).length = ps.length + 1 := by rw [rowBy_len]; omega
    generalize hv : rowBy ps = v at *
    simp only [↓W_sortSet, ↓W_slT, ↓W_var, ↓W_C, ↓W_bin, ↓W_un, ↓W_chain, ↓W_tru, ↓W_tst, ↓W_notT, ↓W_andT, ↓W_orT, ↓W_andV, ↓W_orV, ↓W_notV, ↓W_if, ↓W_nil, ↓W_cons, ↓W_tup, ↓W_lst, ↓W_call, ↓W_callK, ↓W_noPart, ↓W_part, ↓W_sl, ↓W_meth, ↓W_asg, ↓W_name, ↓W_gnil, ↓W_gcons, ↓W_gseq, ↓W_gsub, ↓W_expr, ↓W_ret, ↓W_retN, ↓W_sif, ↓W_next, ↓W_brk, ↓W_cont, ↓W_sbad, ↓W_seq, ↓W_par2, ↓W_par3, ↓W_for, ↓W_lc, ↓W_yes, ↓W_iseq, ↓W_ienum, ↓W_rng1, ↓W_rng2, ↓W_while, ↓W_fun, ↓W_subD, ↓W_addI, ↓W_addS, ↓W_addT, ↓W_mulI, ↓W_fdiv, ↓W_mod, ↓W_neg, ↓W_ord, ↓W_is, ↓W_isnt, ↓W_lenT, ↓W_lenN, ↓W_intI, ↓W_intB, ↓W_abs, ↓W_max2, ↓W_min2, ↓W_divmod, ↓W_tupleT, ↓W_tupleN, ↓W_listT, ↓W_eqI, ↓W_neI, ↓W_eqB, ↓W_neB, ↓W_ix0, ↓W_ix1, ↓W_ix2, ↓its_new, ↓its_tup, ↓lst_new, En.pick, List.filterMap_cons, List.filterMap_nil, tyM, truD, En.isNon, startE, wipeE, List.map_cons, List.map_nil, List.length_cons, List.length_nil, List.cons_append, List.nil_append, List.replicate_succ, List.replicate_zero, List.getElem?_cons_succ, List.getElem?_cons_zero, List.set_cons_succ, List.set_cons_zero, Nat.reduceSub, Nat.reduceAdd, Nat.zero_add, Nat.reduceLeDiff, Nat.sub_self, Bool.not_true, Bool.not_false, Bool.true_and, Bool.and_true, Bool.false_and, Bool.and_false, Bool.or_true, Bool.true_or, Bool.false_or, Bool.or_false, Bool.false_eq_true, if_true, if_false, ite_true, ite_false, true_and, and_true, decide_true, decide_false, String.reduceBEq, beq_self_eq_true, bne_self_eq_false, Bool.or_self, Bool.and_self, reduceCtorEq, Option.some.injEq, Bool.decide_eq_true, decide_eq_true_eq]
    refine ⟨Nat.zero_le _, ?_⟩
    rw [W_len (ds := v.map D.int) rfl]
    try simp only [↓W_sortSet, ↓W_slT, ↓W_var, ↓W_C, ↓W_bin, ↓W_un, ↓W_chain, ↓W_tru, ↓W_tst, ↓W_notT, ↓W_andT, ↓W_orT, ↓W_andV, ↓W_orV, ↓W_notV, ↓W_if, ↓W_nil, ↓W_cons, ↓W_tup, ↓W_lst, ↓W_call, ↓W_callK, ↓W_noPart, ↓W_part, ↓W_sl, ↓W_meth, ↓W_asg, ↓W_name, ↓W_gnil, ↓W_gcons, ↓W_gseq, ↓W_gsub, ↓W_expr, ↓W_ret, ↓W_retN, ↓W_sif, ↓W_next, ↓W_brk, ↓W_cont, ↓W_sbad, ↓W_seq, ↓W_par2, ↓W_par3, ↓W_for, ↓W_lc, ↓W_yes, ↓W_iseq, ↓W_ienum, ↓W_rng1, ↓W_rng2, ↓W_while, ↓W_fun, ↓W_subD, ↓W_addI, ↓W_addS, ↓W_addT, ↓W_mulI, ↓W_fdiv, ↓W_mod, ↓W_neg, ↓W_ord, ↓W_isi, ↓W_is, ↓W_isnt, ↓W_lenT, ↓W_lenN, ↓W_intI, ↓W_intB, ↓W_abs, ↓W_max2, ↓W_min2, ↓W_divmod, ↓W_tupleT, ↓W_tupleN, ↓W_listT, ↓W_eqI, ↓W_neI, ↓W_eqB, ↓W_neB, ↓W_ix0, ↓W_ix1, ↓W_ix2, ↓its_new, ↓its_tup, ↓lst_new, En.pick, List.filterMap_cons, List.filterMap_nil, tyN, tyM, isT, truD, En.isNon, startE, wipeE, List.map_cons, List.map_nil, List.length_cons, List.length_nil, List.cons_append, List.nil_append, List.replicate_succ, List.replicate_zero, List.getElem?_cons_succ, List.getElem?_cons_zero, List.set_cons_succ, List.set_cons_zero, Nat.reduceSub, Nat.reduceAdd, Nat.zero_add, Nat.reduceLeDiff, Nat.sub_self, Bool.not_true, Bool.not_false, Bool.true_and, Bool.and_true, Bool.false_and, Bool.and_false, Bool.or_true, Bool.true_or, Bool.false_or, Bool.or_false, Bool.false_eq_true, if_true, if_false, ite_true, ite_false, true_and, and_true, decide_true, decide_false, String.reduceBEq, beq_self_eq_true, bne_self_eq_false, Bool.or_self, Bool.and_self, reduceCtorEq, Option.some.injEq, Bool.decide_eq_true, decide_eq_true_eq]
    rw [W_len (ds := v.map D.int) rfl]
    try simp only [↓W_sortSet, ↓W_slT, ↓W_var, ↓W_C, ↓W_bin, ↓W_un, ↓W_chain, ↓W_tru, ↓W_tst, ↓W_notT, ↓W_andT, ↓W_orT, ↓W_andV, ↓W_orV, ↓W_notV, ↓W_if, ↓W_nil, ↓W_cons, ↓W_tup, ↓W_lst, ↓W_call, ↓W_callK, ↓W_noPart, ↓W_part, ↓W_sl, ↓W_meth, ↓W_asg, ↓W_name, ↓W_gnil, ↓W_gcons, ↓W_gseq, ↓W_gsub, ↓W_expr, ↓W_ret, ↓W_retN, ↓W_sif, ↓W_next, ↓W_brk, ↓W_cont, ↓W_sbad, ↓W_seq, ↓W_par2, ↓W_par3, ↓W_for, ↓W_lc, ↓W_yes, ↓W_iseq, ↓W_ienum, ↓W_rng1, ↓W_rng2, ↓W_while, ↓W_fun, ↓W_subD, ↓W_addI, ↓W_addS, ↓W_addT, ↓W_mulI, ↓W_fdiv, ↓W_mod, ↓W_neg, ↓W_ord, ↓W_isi, ↓W_is, ↓W_isnt, ↓W_lenT, ↓W_lenN, ↓W_intI, ↓W_intB, ↓W_abs, ↓W_max2, ↓W_min2, ↓W_divmod, ↓W_tupleT, ↓W_tupleN, ↓W_listT, ↓W_eqI, ↓W_neI, ↓W_eqB, ↓W_neB, ↓W_ix0, ↓W_ix1, ↓W_ix2, ↓its_new, ↓its_tup, ↓lst_new, En.pick, List.filterMap_cons, List.filterMap_nil, tyN, tyM, isT, truD, En.isNon, startE, wipeE, List.map_cons, List.map_nil, List.length_cons, List.length_nil, List.cons_append, List.nil_append, List.replicate_succ, List.replicate_zero, List.getElem?_cons_succ, List.getElem?_cons_zero, List.set_cons_succ, List.set_cons_zero, Nat.reduceSub, Nat.reduceAdd, Nat.zero_add, Nat.reduceLeDiff, Nat.sub_self, Bool.not_true, Bool.not_false, Bool.true_and, Bool.and_true, Bool.false_and, Bool.and_false, Bool.or_true, Bool.true_or, Bool.false_or, Bool.or_false, Bool.false_eq_true, if_true, if_false, ite_true, ite_false, true_and, and_true, decide_true, decide_false, String.reduceBEq, beq_self_eq_true, bne_self_eq_false, Bool.or_self, Bool.and_self, reduceCtorEq, Option.some.injEq, Bool.decide_eq_true, decide_eq_true_eq]
    have hlo : (if ((v.map D.int).length : Int) - 7 > 0 then ((v.map D.int).length : Int) - 7 else 0) = ((v.length - 7 : Nat) : Int) := by
      rw [List.length_map]; split <;> omega
    rw [hlo, List.length_map]
    refine ⟨by omega, ?_⟩
    rw [rngLo (by omega)]
    have hb3 := w3.lt
    refine some_loop (b := b) (by omega) (by omega) hpos hb3 fun c zs x7' S4 s4 hcb e4 hzl hm4 hx => ?_
    have w4 := w3.sub s4
    have fin : ∀ (c' : Nat) (zs' : List (Nat × Nat)) (S5 : Sto), Sub S4 S5 → c' ≠ b → S5[c']? = some (C.lst (zs'.map pairD)) → zs' ≠ [] → zs'.length ≤ 1000000 → May v zs' →
        W (m__law_of [.loc b, .loc c'] S5) fun d S1 => W (T [some (.loc b), some (natD most), some (natD kind), some (.tup (ps.map pairD)), some (tupI v), some (.int (ps.length : Int)), some (.loc c'), x7', x8, some d] S1) fun o S2 => match o with
          | .next ρ2 => SubB b S S2 ∧ Bowl b S2 ∧ ∃ (ps_1 : List (Nat × Nat)) (n : Nat) (x5 x6 x7 x8 x9 : Option D), List.range' (ps.length + 1) m = List.range' ps_1.length n ∧ ps_1.length + n = far ∧ Plan 1 ps_1 ∧ Pos (rowBy ps_1) ∧ ρ2 = [some (.loc b), some (natD most), some (natD kind), some (.tup (ps_1.map pairD)), some (tupI (rowBy ps_1)), x5, x6, x7, x8, x9]
          | .cont ρ2 => SubB b S S2 ∧ Bowl b S2 ∧ ∃ (ps_1 : List (Nat × Nat)) (n : Nat) (x5 x6 x7 x8 x9 : Option D), List.range' (ps.length + 1) m = List.range' ps_1.length n ∧ ps_1.length + n = far ∧ Plan 1 ps_1 ∧ Pos (rowBy ps_1) ∧ ρ2 = [some (.loc b), some (natD most), some (natD kind), some (.tup (ps_1.map pairD)), some (tupI (rowBy ps_1)), x5, x6, x7, x8, x9]
          | .brk ρ2 => (match ρ2[3]? with | some (some d) => Q d S2 | _ => False)
          | .ret d => Q d S2 := by
      intro c' zs' S5 s5 hcb' e5 hz0 hzl' hm5
      have hlen : 0 < (zs'.map pairD).length := by
        rw [List.length_map]
        cases zs' with
        | nil => exact absurd rfl hz0
        | cons _ _ => simp
      refine of_spec (w4.sub s5) (its_at e5) (fun S' s' => its_at (s'.2 _ _ hcb' e5)) hlen (by rw [List.length_map]; omega) fun x S6 hx s6 w6 => ?_
      obtain ⟨z, hz, rfl⟩ := List.mem_map.mp hx
      have hz' := hm5 z hz
      subst hT
      refine plan_tail w6 hcb' (s6.2 _ _ hcb' e5) hzl' hz0 hm5 hz'.1 hz'.2 (by omega) (by omega) (by omega) fun z' S7 h1' h2' s7 w7 => ?_
      have er : rowBy (ps ++ [z']) = step v z' := by rw [← hv]; exact rowGo_snoc ps [1] z'
      refine ⟨(s3.trans ((s4.trans s5).b.trans (s6.trans s7))), w7, ps ++ [z'], m, _, _, _, _, _, by simp, by simp; omega, hpl.snoc (by omega) (by omega), by rw [er]; exact hpos.step h1' h2', by rw [er]⟩
    try simp only [↓W_sortSet, ↓W_slT, ↓W_var, ↓W_C, ↓W_bin, ↓W_un, ↓W_chain, ↓W_tru, ↓W_tst, ↓W_notT, ↓W_andT, ↓W_orT, ↓W_andV, ↓W_orV, ↓W_notV, ↓W_if, ↓W_nil, ↓W_cons, ↓W_tup, ↓W_lst, ↓W_call, ↓W_callK, ↓W_noPart, ↓W_part, ↓W_sl, ↓W_meth, ↓W_asg, ↓W_name, ↓W_gnil, ↓W_gcons, ↓W_gseq, ↓W_gsub, ↓W_expr, ↓W_ret, ↓W_retN, ↓W_sif, ↓W_next, ↓W_brk, ↓W_cont, ↓W_sbad, ↓W_seq, ↓W_par2, ↓W_par3, ↓W_for, ↓W_lc, ↓W_yes, ↓W_iseq, ↓W_ienum, ↓W_rng1, ↓W_rng2, ↓W_while, ↓W_fun, ↓W_subD, ↓W_addI, ↓W_addS, ↓W_addT, ↓W_mulI, ↓W_fdiv, ↓W_mod, ↓W_neg, ↓W_ord, ↓W_isi, ↓W_is, ↓W_isnt, ↓W_lenT, ↓W_lenN, ↓W_intI, ↓W_intB, ↓W_abs, ↓W_max2, ↓W_min2, ↓W_divmod, ↓W_tupleT, ↓W_tupleN, ↓W_listT, ↓W_eqI, ↓W_neI, ↓W_eqB, ↓W_neB, ↓W_ix0, ↓W_ix1, ↓W_ix2, ↓its_new, ↓its_tup, ↓lst_new, En.pick, List.filterMap_cons, List.filterMap_nil, tyN, tyM, isT, truD, En.isNon, startE, wipeE, List.map_cons, List.map_nil, List.length_cons, List.length_nil, List.cons_append, List.nil_append, List.replicate_succ, List.replicate_zero, List.getElem?_cons_succ, List.getElem?_cons_zero, List.set_cons_succ, List.set_cons_zero, Nat.reduceSub, Nat.reduceAdd, Nat.zero_add, Nat.reduceLeDiff, Nat.sub_self, Bool.not_true, Bool.not_false, Bool.true_and, Bool.and_true, Bool.false_and, Bool.and_false, Bool.or_true, Bool.true_or, Bool.false_or, Bool.or_false, Bool.false_eq_true, if_true, if_false, ite_true, ite_false, true_and, and_true, decide_true, decide_false, String.reduceBEq, beq_self_eq_true, bne_self_eq_false, Bool.or_self, Bool.and_self, reduceCtorEq, Option.some.injEq, Bool.decide_eq_true, decide_eq_true_eq]
    refine ⟨by decide, ?_⟩
    rw [W_in12]
    try simp only [↓W_sortSet, ↓W_slT, ↓W_var, ↓W_C, ↓W_bin, ↓W_un, ↓W_chain, ↓W_tru, ↓W_tst, ↓W_notT, ↓W_andT, ↓W_orT, ↓W_andV, ↓W_orV, ↓W_notV, ↓W_if, ↓W_nil, ↓W_cons, ↓W_tup, ↓W_lst, ↓W_call, ↓W_callK, ↓W_noPart, ↓W_part, ↓W_sl, ↓W_meth, ↓W_asg, ↓W_name, ↓W_gnil, ↓W_gcons, ↓W_gseq, ↓W_gsub, ↓W_expr, ↓W_ret, ↓W_retN, ↓W_sif, ↓W_next, ↓W_brk, ↓W_cont, ↓W_sbad, ↓W_seq, ↓W_par2, ↓W_par3, ↓W_for, ↓W_lc, ↓W_yes, ↓W_iseq, ↓W_ienum, ↓W_rng1, ↓W_rng2, ↓W_while, ↓W_fun, ↓W_subD, ↓W_addI, ↓W_addS, ↓W_addT, ↓W_mulI, ↓W_fdiv, ↓W_mod, ↓W_neg, ↓W_ord, ↓W_isi, ↓W_is, ↓W_isnt, ↓W_lenT, ↓W_lenN, ↓W_intI, ↓W_intB, ↓W_abs, ↓W_max2, ↓W_min2, ↓W_divmod, ↓W_tupleT, ↓W_tupleN, ↓W_listT, ↓W_eqI, ↓W_neI, ↓W_eqB, ↓W_neB, ↓W_ix0, ↓W_ix1, ↓W_ix2, ↓its_new, ↓its_tup, ↓lst_new, En.pick, List.filterMap_cons, List.filterMap_nil, tyN, tyM, isT, truD, En.isNon, startE, wipeE, List.map_cons, List.map_nil, List.length_cons, List.length_nil, List.cons_append, List.nil_append, List.replicate_succ, List.replicate_zero, List.getElem?_cons_succ, List.getElem?_cons_zero, List.set_cons_succ, List.set_cons_zero, Nat.reduceSub, Nat.reduceAdd, Nat.zero_add, Nat.reduceLeDiff, Nat.sub_self, Bool.not_true, Bool.not_false, Bool.true_and, Bool.and_true, Bool.false_and, Bool.and_false, Bool.or_true, Bool.true_or, Bool.false_or, Bool.or_false, Bool.false_eq_true, if_true, if_false, ite_true, ite_false, true_and, and_true, decide_true, decide_false, String.reduceBEq, beq_self_eq_true, bne_self_eq_false, Bool.or_self, Bool.and_self, reduceCtorEq, Option.some.injEq, Bool.decide_eq_true, decide_eq_true_eq]
    obtain ⟨zx, hzx, ezx⟩ := hx
    by_cases c12 : kind = 1 ∨ kind = 2
    · simp only [c12, its_at e4, ↓W_sortSet, ↓W_slT, ↓W_var, ↓W_C, ↓W_bin, ↓W_un, ↓W_chain, ↓W_tru, ↓W_tst, ↓W_notT, ↓W_andT, ↓W_orT, ↓W_andV, ↓W_orV, ↓W_notV, ↓W_if, ↓W_nil, ↓W_cons, ↓W_tup, ↓W_lst, ↓W_call, ↓W_callK, ↓W_noPart, ↓W_part, ↓W_sl, ↓W_meth, ↓W_asg, ↓W_name, ↓W_gnil, ↓W_gcons, ↓W_gseq, ↓W_gsub, ↓W_expr, ↓W_ret, ↓W_retN, ↓W_sif, ↓W_next, ↓W_brk, ↓W_cont, ↓W_sbad, ↓W_seq, ↓W_par2, ↓W_par3, ↓W_for, ↓W_lc, ↓W_yes, ↓W_iseq, ↓W_ienum, ↓W_rng1, ↓W_rng2, ↓W_while, ↓W_fun, ↓W_subD, ↓W_addI, ↓W_addS, ↓W_addT, ↓W_mulI, ↓W_fdiv, ↓W_mod, ↓W_neg, ↓W_ord, ↓W_isi, ↓W_is, ↓W_isnt, ↓W_lenT, ↓W_lenN, ↓W_intI, ↓W_intB, ↓W_abs, ↓W_max2, ↓W_min2, ↓W_divmod, ↓W_tupleT, ↓W_tupleN, ↓W_listT, ↓W_eqI, ↓W_neI, ↓W_eqB, ↓W_neB, ↓W_ix0, ↓W_ix1, ↓W_ix2, ↓its_new, ↓its_tup, ↓lst_new, En.pick, List.filterMap_cons, List.filterMap_nil, tyN, tyM, isT, truD, En.isNon, startE, wipeE, List.map_cons, List.map_nil, List.length_cons, List.length_nil, List.cons_append, List.nil_append, List.replicate_succ, List.replicate_zero, List.getElem?_cons_succ, List.getElem?_cons_zero, List.set_cons_succ, List.set_cons_zero, Nat.reduceSub, Nat.reduceAdd, Nat.zero_add, Nat.reduceLeDiff, Nat.sub_self, Bool.not_true, Bool.not_false, Bool.true_and, Bool.and_true, Bool.false_and, Bool.and_false, Bool.or_true, Bool.true_or, Bool.false_or, Bool.or_false, Bool.false_eq_true, if_true, if_false, ite_true, ite_false, true_and, and_true, decide_true, decide_false, String.reduceBEq, beq_self_eq_true, bne_self_eq_false, Bool.or_self, Bool.and_self, reduceCtorEq, Option.some.injEq, Bool.decide_eq_true, decide_eq_true_eq]
      refine W_lcP (c := pairD) (p := fun y => decide (y.1 = ps.length)) (v := pairD) (grd_of (its_at e4)) (fun y hy S5 s5 => ?_) fun S5 s5 => ?_
      · simp only [pairD, ↓W_sortSet, ↓W_slT, ↓W_var, ↓W_C, ↓W_bin, ↓W_un, ↓W_chain, ↓W_tru, ↓W_tst, ↓W_notT, ↓W_andT, ↓W_orT, ↓W_andV, ↓W_orV, ↓W_notV, ↓W_if, ↓W_nil, ↓W_cons, ↓W_tup, ↓W_lst, ↓W_call, ↓W_callK, ↓W_noPart, ↓W_part, ↓W_sl, ↓W_meth, ↓W_asg, ↓W_name, ↓W_gnil, ↓W_gcons, ↓W_gseq, ↓W_gsub, ↓W_expr, ↓W_ret, ↓W_retN, ↓W_sif, ↓W_next, ↓W_brk, ↓W_cont, ↓W_sbad, ↓W_seq, ↓W_par2, ↓W_par3, ↓W_for, ↓W_lc, ↓W_yes, ↓W_iseq, ↓W_ienum, ↓W_rng1, ↓W_rng2, ↓W_while, ↓W_fun, ↓W_subD, ↓W_addI, ↓W_addS, ↓W_addT, ↓W_mulI, ↓W_fdiv, ↓W_mod, ↓W_neg, ↓W_ord, ↓W_isi, ↓W_is, ↓W_isnt, ↓W_lenT, ↓W_lenN, ↓W_intI, ↓W_intB, ↓W_abs, ↓W_max2, ↓W_min2, ↓W_divmod, ↓W_tupleT, ↓W_tupleN, ↓W_listT, ↓W_eqI, ↓W_neI, ↓W_eqB, ↓W_neB, ↓W_ix0, ↓W_ix1, ↓W_ix2, ↓its_new, ↓its_tup, ↓lst_new, En.pick, List.filterMap_cons, List.filterMap_nil, tyN, tyM, isT, truD, En.isNon, startE, wipeE, List.map_cons, List.map_nil, List.length_cons, List.length_nil, List.cons_append, List.nil_append, List.replicate_succ, List.replicate_zero, List.getElem?_cons_succ, List.getElem?_cons_zero, List.set_cons_succ, List.set_cons_zero, Nat.reduceSub, Nat.reduceAdd, Nat.zero_add, Nat.reduceLeDiff, Nat.sub_self, Bool.not_true, Bool.not_false, Bool.true_and, Bool.and_true, Bool.false_and, Bool.and_false, Bool.or_true, Bool.true_or, Bool.false_or, Bool.or_false, Bool.false_eq_true, if_true, if_false, ite_true, ite_false, true_and, and_true, decide_true, decide_false, String.reduceBEq, beq_self_eq_true, bne_self_eq_false, Bool.or_self, Bool.and_self, reduceCtorEq, Option.some.injEq, Bool.decide_eq_true, decide_eq_true_eq]
        by_cases cy : y.1 = ps.length
        · have : ((y.1 : Int) == (ps.length : Int)) = true := by simp; omega
          simp only [this, cy, ↓W_sortSet, ↓W_slT, ↓W_var, ↓W_C, ↓W_bin, ↓W_un, ↓W_chain, ↓W_tru, ↓W_tst, ↓W_notT, ↓W_andT, ↓W_orT, ↓W_andV, ↓W_orV, ↓W_notV, ↓W_if, ↓W_nil, ↓W_cons, ↓W_tup, ↓W_lst, ↓W_call, ↓W_callK, ↓W_noPart, ↓W_part, ↓W_sl, ↓W_meth, ↓W_asg, ↓W_name, ↓W_gnil, ↓W_gcons, ↓W_gseq, ↓W_gsub, ↓W_expr, ↓W_ret, ↓W_retN, ↓W_sif, ↓W_next, ↓W_brk, ↓W_cont, ↓W_sbad, ↓W_seq, ↓W_par2, ↓W_par3, ↓W_for, ↓W_lc, ↓W_yes, ↓W_iseq, ↓W_ienum, ↓W_rng1, ↓W_rng2, ↓W_while, ↓W_fun, ↓W_subD, ↓W_addI, ↓W_addS, ↓W_addT, ↓W_mulI, ↓W_fdiv, ↓W_mod, ↓W_neg, ↓W_ord, ↓W_isi, ↓W_is, ↓W_isnt, ↓W_lenT, ↓W_lenN, ↓W_intI, ↓W_intB, ↓W_abs, ↓W_max2, ↓W_min2, ↓W_divmod, ↓W_tupleT, ↓W_tupleN, ↓W_listT, ↓W_eqI, ↓W_neI, ↓W_eqB, ↓W_neB, ↓W_ix0, ↓W_ix1, ↓W_ix2, ↓its_new, ↓its_tup, ↓lst_new, En.pick, List.filterMap_cons, List.filterMap_nil, tyN, tyM, isT, truD, En.isNon, startE, wipeE, List.map_cons, List.map_nil, List.length_cons, List.length_nil, List.cons_append, List.nil_append, List.replicate_succ, List.replicate_zero, List.getElem?_cons_succ, List.getElem?_cons_zero, List.set_cons_succ, List.set_cons_zero, Nat.reduceSub, Nat.reduceAdd, Nat.zero_add, Nat.reduceLeDiff, Nat.sub_self, Bool.not_true, Bool.not_false, Bool.true_and, Bool.and_true, Bool.false_and, Bool.and_false, Bool.or_true, Bool.true_or, Bool.false_or, Bool.or_false, Bool.false_eq_true, if_true, if_false, ite_true, ite_false, true_and, and_true, decide_true, decide_false, String.reduceBEq, beq_self_eq_true, bne_self_eq_false, Bool.or_self, Bool.and_self, reduceCtorEq, Option.some.injEq, Bool.decide_eq_true, decide_eq_true_eq]; exact Sub.refl
        · have : ((y.1 : Int) == (ps.length : Int)) = false := by simp; omega
          simp only [this, cy, ↓W_sortSet, ↓W_slT, ↓W_var, ↓W_C, ↓W_bin, ↓W_un, ↓W_chain, ↓W_tru, ↓W_tst, ↓W_notT, ↓W_andT, ↓W_orT, ↓W_andV, ↓W_orV, ↓W_notV, ↓W_if, ↓W_nil, ↓W_cons, ↓W_tup, ↓W_lst, ↓W_call, ↓W_callK, ↓W_noPart, ↓W_part, ↓W_sl, ↓W_meth, ↓W_asg, ↓W_name, ↓W_gnil, ↓W_gcons, ↓W_gseq, ↓W_gsub, ↓W_expr, ↓W_ret, ↓W_retN, ↓W_sif, ↓W_next, ↓W_brk, ↓W_cont, ↓W_sbad, ↓W_seq, ↓W_par2, ↓W_par3, ↓W_for, ↓W_lc, ↓W_yes, ↓W_iseq, ↓W_ienum, ↓W_rng1, ↓W_rng2, ↓W_while, ↓W_fun, ↓W_subD, ↓W_addI, ↓W_addS, ↓W_addT, ↓W_mulI, ↓W_fdiv, ↓W_mod, ↓W_neg, ↓W_ord, ↓W_isi, ↓W_is, ↓W_isnt, ↓W_lenT, ↓W_lenN, ↓W_intI, ↓W_intB, ↓W_abs, ↓W_max2, ↓W_min2, ↓W_divmod, ↓W_tupleT, ↓W_tupleN, ↓W_listT, ↓W_eqI, ↓W_neI, ↓W_eqB, ↓W_neB, ↓W_ix0, ↓W_ix1, ↓W_ix2, ↓its_new, ↓its_tup, ↓lst_new, En.pick, List.filterMap_cons, List.filterMap_nil, tyN, tyM, isT, truD, En.isNon, startE, wipeE, List.map_cons, List.map_nil, List.length_cons, List.length_nil, List.cons_append, List.nil_append, List.replicate_succ, List.replicate_zero, List.getElem?_cons_succ, List.getElem?_cons_zero, List.set_cons_succ, List.set_cons_zero, Nat.reduceSub, Nat.reduceAdd, Nat.zero_add, Nat.reduceLeDiff, Nat.sub_self, Bool.not_true, Bool.not_false, Bool.true_and, Bool.and_true, Bool.false_and, Bool.and_false, Bool.or_true, Bool.true_or, Bool.false_or, Bool.or_false, Bool.false_eq_true, if_true, if_false, ite_true, ite_false, true_and, and_true, decide_true, decide_false, String.reduceBEq, beq_self_eq_true, bne_self_eq_false, Bool.or_self, Bool.and_self, reduceCtorEq, Option.some.injEq, Bool.decide_eq_true, decide_eq_true_eq]; exact Sub.refl
      · have lf : (zs.filter fun y => decide (y.1 = ps.length)).length ≤ 1000000 := Nat.le_trans (List.length_filter_le _ _) hzl
        refine ⟨le_lim (by rw [List.length_map]; exact lf), ?_⟩
        refine fin _ (zs.filter fun y => decide (y.1 = ps.length)) _ s5.new (by have := (s4.trans s5).len; omega) at_new ?_ lf fun y hy => hm4 y (List.mem_filter.mp hy).1
        intro e0
        have : zx ∈ zs.filter fun y => decide (y.1 = ps.length) := List.mem_filter.mpr ⟨hzx, decide_eq_true (by omega)⟩
        rw [e0] at this
        cases this
    · simp only [c12, ↓W_sortSet, ↓W_slT, ↓W_var, ↓W_C, ↓W_bin, ↓W_un, ↓W_chain, ↓W_tru, ↓W_tst, ↓W_notT, ↓W_andT, ↓W_orT, ↓W_andV, ↓W_orV, ↓W_notV, ↓W_if, ↓W_nil, ↓W_cons, ↓W_tup, ↓W_lst, ↓W_call, ↓W_callK, ↓W_noPart, ↓W_part, ↓W_sl, ↓W_meth, ↓W_asg, ↓W_name, ↓W_gnil, ↓W_gcons, ↓W_gseq, ↓W_gsub, ↓W_expr, ↓W_ret, ↓W_retN, ↓W_sif, ↓W_next, ↓W_brk, ↓W_cont, ↓W_sbad, ↓W_seq, ↓W_par2, ↓W_par3, ↓W_for, ↓W_lc, ↓W_yes, ↓W_iseq, ↓W_ienum, ↓W_rng1, ↓W_rng2, ↓W_while, ↓W_fun, ↓W_subD, ↓W_addI, ↓W_addS, ↓W_addT, ↓W_mulI, ↓W_fdiv, ↓W_mod, ↓W_neg, ↓W_ord, ↓W_isi, ↓W_is, ↓W_isnt, ↓W_lenT, ↓W_lenN, ↓W_intI, ↓W_intB, ↓W_abs, ↓W_max2, ↓W_min2, ↓W_divmod, ↓W_tupleT, ↓W_tupleN, ↓W_listT, ↓W_eqI, ↓W_neI, ↓W_eqB, ↓W_neB, ↓W_ix0, ↓W_ix1, ↓W_ix2, ↓its_new, ↓its_tup, ↓lst_new, En.pick, List.filterMap_cons, List.filterMap_nil, tyN, tyM, isT, truD, En.isNon, startE, wipeE, List.map_cons, List.map_nil, List.length_cons, List.length_nil, List.cons_append, List.nil_append, List.replicate_succ, List.replicate_zero, List.getElem?_cons_succ, List.getElem?_cons_zero, List.set_cons_succ, List.set_cons_zero, Nat.reduceSub, Nat.reduceAdd, Nat.zero_add, Nat.reduceLeDiff, Nat.sub_self, Bool.not_true, Bool.not_false, Bool.true_and, Bool.and_true, Bool.false_and, Bool.and_false, Bool.or_true, Bool.true_or, Bool.false_or, Bool.or_false, Bool.false_eq_true, if_true, if_false, ite_true, ite_false, true_and, and_true, decide_true, decide_false, String.reduceBEq, beq_self_eq_true, bne_self_eq_false, Bool.or_self, Bool.and_self, reduceCtorEq, Option.some.injEq, Bool.decide_eq_true, decide_eq_true_eq]
      exact fin c zs S4 Sub.refl hcb e4 (by intro e0; rw [e0] at hzx; cases hzx) hzl hm4
  · rintro ρ S3 ⟨s3, w3, ps, n, x5, x6, x7, x8, x9, er, en, hpl, hpos, rfl⟩
    have := range_nil er
    subst this
    refine ⟨rfl, ?_⟩
    try simp only [↓W_sortSet, ↓W_slT, ↓W_var, ↓W_C, ↓W_bin, ↓W_un, ↓W_chain, ↓W_tru, ↓W_tst, ↓W_notT, ↓W_andT, ↓W_orT, ↓W_andV, ↓W_orV, ↓W_notV, ↓W_if, ↓W_nil, ↓W_cons, ↓W_tup, ↓W_lst, ↓W_call, ↓W_callK, ↓W_noPart, ↓W_part, ↓W_sl, ↓W_meth, ↓W_asg, ↓W_name, ↓W_gnil, ↓W_gcons, ↓W_gseq, ↓W_gsub, ↓W_expr, ↓W_ret, ↓W_retN, ↓W_sif, ↓W_next, ↓W_brk, ↓W_cont, ↓W_sbad, ↓W_seq, ↓W_par2, ↓W_par3, ↓W_for, ↓W_lc, ↓W_yes, ↓W_iseq, ↓W_ienum, ↓W_rng1, ↓W_rng2, ↓W_while, ↓W_fun, ↓W_subD, ↓W_addI, ↓W_addS, ↓W_addT, ↓W_mulI, ↓W_fdiv, ↓W_mod, ↓W_neg, ↓W_ord, ↓W_isi, ↓W_is, ↓W_isnt, ↓W_lenT, ↓W_lenN, ↓W_intI, ↓W_intB, ↓W_abs, ↓W_max2, ↓W_min2, ↓W_divmod, ↓W_tupleT, ↓W_tupleN, ↓W_listT, ↓W_eqI, ↓W_neI, ↓W_eqB, ↓W_neB, ↓W_ix0, ↓W_ix1, ↓W_ix2, ↓its_new, ↓its_tup, ↓lst_new, En.pick, List.filterMap_cons, List.filterMap_nil, tyN, tyM, isT, truD, En.isNon, startE, wipeE, List.map_cons, List.map_nil, List.length_cons, List.length_nil, List.cons_append, List.nil_append, List.replicate_succ, List.replicate_zero, List.getElem?_cons_succ, List.getElem?_cons_zero, List.set_cons_succ, List.set_cons_zero, Nat.reduceSub, Nat.reduceAdd, Nat.zero_add, Nat.reduceLeDiff, Nat.sub_self, Bool.not_true, Bool.not_false, Bool.true_and, Bool.and_true, Bool.false_and, Bool.and_false, Bool.or_true, Bool.true_or, Bool.false_or, Bool.or_false, Bool.false_eq_true, if_true, if_false, ite_true, ite_false, true_and, and_true, decide_true, decide_false, String.reduceBEq, beq_self_eq_true, bne_self_eq_false, Bool.or_self, Bool.and_self, reduceCtorEq, Option.some.injEq, Bool.decide_eq_true, decide_eq_true_eq]
    exact k ps S3 hpl (by omega) s3 w3
  · intro i hi
    have : i = 0 := by simp [rowBy, rowGo] at hi; omega
    subst this
    decide
end L_k07
namespace L_k07
open PySem L2 En
theorem row_spec {b most : Nat} {S : Sto} {Q : D → Sto → Prop} (hw : Bowl b S) (hm : most ≤ 29) (k : ∀ l S', 1 ≤ l.length → l.length ≤ 30 → SubB b S S' → Bowl b S' → Q (tupI l) S') : W (m__law_row [.loc b, natD most] S) Q := by
  simp only [m__law_row, ↓W_sortSet, ↓W_slT, ↓W_var, ↓W_C, ↓W_bin, ↓W_un, ↓W_chain, ↓W_tru, ↓W_tst, ↓W_notT, ↓W_andT, ↓W_orT, ↓W_andV, ↓W_orV, ↓W_notV, ↓W_if, ↓W_nil, ↓W_cons, ↓W_tup, ↓W_lst, ↓W_call, ↓W_callK, ↓W_noPart, ↓W_part, ↓W_sl, ↓W_meth, ↓W_asg, ↓W_name, ↓W_gnil, ↓W_gcons, ↓W_gseq, ↓W_gsub, ↓W_expr, ↓W_ret, ↓W_retN, ↓W_sif, ↓W_next, ↓W_brk, ↓W_cont, ↓W_sbad, ↓W_seq, ↓W_par2, ↓W_par3, ↓W_for, ↓W_lc, ↓W_yes, ↓W_iseq, ↓W_ienum, ↓W_rng1, ↓W_rng2, ↓W_while, ↓W_fun, ↓W_subD, ↓W_addI, ↓W_addS, ↓W_addT, ↓W_mulI, ↓W_fdiv, ↓W_mod, ↓W_neg, ↓W_ord, ↓W_isi, ↓W_is, ↓W_isnt, ↓W_lenT, ↓W_lenN, ↓W_intI, ↓W_intB, ↓W_abs, ↓W_max2, ↓W_min2, ↓W_divmod, ↓W_tupleT, ↓W_tupleN, ↓W_listT, ↓W_eqI, ↓W_neI, ↓W_eqB, ↓W_neB, ↓W_ix0, ↓W_ix1, ↓W_ix2, ↓its_new, ↓its_tup, ↓lst_new, En.pick, List.filterMap_cons, List.filterMap_nil, tyN, tyM, isT, truD, En.isNon, startE, wipeE, List.map_cons, List.map_nil, List.length_cons, List.length_nil, List.cons_append, List.nil_append, List.replicate_succ, List.replicate_zero, List.getElem?_cons_succ, List.getElem?_cons_zero, List.set_cons_succ, List.set_cons_zero, Nat.reduceSub, Nat.reduceAdd, Nat.zero_add, Nat.reduceLeDiff, Nat.sub_self, Bool.not_true, Bool.not_false, Bool.true_and, Bool.and_true, Bool.false_and, Bool.and_false, Bool.or_true, Bool.true_or, Bool.false_or, Bool.or_false, Bool.false_eq_true, if_true, if_false, ite_true, ite_false, true_and, and_true, decide_true, decide_false, String.reduceBEq, beq_self_eq_true, bne_self_eq_false, Bool.or_self, Bool.and_self, reduceCtorEq, Option.some.injEq, Bool.decide_eq_true, decide_eq_true_eq]
  refine plan_spec hw hm fun ps S1 hp hl s1 w1 => ?_
  try simp only [↓W_sortSet, ↓W_slT, ↓W_var, ↓W_C, ↓W_bin, ↓W_un, ↓W_chain, ↓W_tru, ↓W_tst, ↓W_notT, ↓W_andT, ↓W_orT, ↓W_andV, ↓W_orV, ↓W_notV, ↓W_if, ↓W_nil, ↓W_cons, ↓W_tup, ↓W_lst, ↓W_call, ↓W_callK, ↓W_noPart, ↓W_part, ↓W_sl, ↓W_meth, ↓W_asg, ↓W_name, ↓W_gnil, ↓W_gcons, ↓W_gseq, ↓W_gsub, ↓W_expr, ↓W_ret, ↓W_retN, ↓W_sif, ↓W_next, ↓W_brk, ↓W_cont, ↓W_sbad, ↓W_seq, ↓W_par2, ↓W_par3, ↓W_for, ↓W_lc, ↓W_yes, ↓W_iseq, ↓W_ienum, ↓W_rng1, ↓W_rng2, ↓W_while, ↓W_fun, ↓W_subD, ↓W_addI, ↓W_addS, ↓W_addT, ↓W_mulI, ↓W_fdiv, ↓W_mod, ↓W_neg, ↓W_ord, ↓W_isi, ↓W_is, ↓W_isnt, ↓W_lenT, ↓W_lenN, ↓W_intI, ↓W_intB, ↓W_abs, ↓W_max2, ↓W_min2, ↓W_divmod, ↓W_tupleT, ↓W_tupleN, ↓W_listT, ↓W_eqI, ↓W_neI, ↓W_eqB, ↓W_neB, ↓W_ix0, ↓W_ix1, ↓W_ix2, ↓its_new, ↓its_tup, ↓lst_new, En.pick, List.filterMap_cons, List.filterMap_nil, tyN, tyM, isT, truD, En.isNon, startE, wipeE, List.map_cons, List.map_nil, List.length_cons, List.length_nil, List.cons_append, List.nil_append, List.replicate_succ, List.replicate_zero, List.getElem?_cons_succ, List.getElem?_cons_zero, List.set_cons_succ, List.set_cons_zero, Nat.reduceSub, Nat.reduceAdd, Nat.zero_add, Nat.reduceLeDiff, Nat.sub_self, Bool.not_true, Bool.not_false, Bool.true_and, Bool.and_true, Bool.false_and, Bool.and_false, Bool.or_true, Bool.true_or, Bool.false_or, Bool.or_false, Bool.false_eq_true, if_true, if_false, ite_true, ite_false, true_and, and_true, decide_true, decide_false, String.reduceBEq, beq_self_eq_true, bne_self_eq_false, Bool.or_self, Bool.and_self, reduceCtorEq, Option.some.injEq, Bool.decide_eq_true, decide_eq_true_eq]
  refine (row_by_pu hp (by omega)).use fun S2 s2 => ?_
  try simp only [↓W_sortSet, ↓W_slT, ↓W_var, ↓W_C, ↓W_bin, ↓W_un, ↓W_chain, ↓W_tru, ↓W_tst, ↓W_notT, ↓W_andT, ↓W_orT, ↓W_andV, ↓W_orV, ↓W_notV, ↓W_if, ↓W_nil, ↓W_cons, ↓W_tup, ↓W_lst, ↓W_call, ↓W_callK, ↓W_noPart, ↓W_part, ↓W_sl, ↓W_meth, ↓W_asg, ↓W_name, ↓W_gnil, ↓W_gcons, ↓W_gseq, ↓W_gsub, ↓W_expr, ↓W_ret, ↓W_retN, ↓W_sif, ↓W_next, ↓W_brk, ↓W_cont, ↓W_sbad, ↓W_seq, ↓W_par2, ↓W_par3, ↓W_for, ↓W_lc, ↓W_yes, ↓W_iseq, ↓W_ienum, ↓W_rng1, ↓W_rng2, ↓W_while, ↓W_fun, ↓W_subD, ↓W_addI, ↓W_addS, ↓W_addT, ↓W_mulI, ↓W_fdiv, ↓W_mod, ↓W_neg, ↓W_ord, ↓W_isi, ↓W_is, ↓W_isnt, ↓W_lenT, ↓W_lenN, ↓W_intI, ↓W_intB, ↓W_abs, ↓W_max2, ↓W_min2, ↓W_divmod, ↓W_tupleT, ↓W_tupleN, ↓W_listT, ↓W_eqI, ↓W_neI, ↓W_eqB, ↓W_neB, ↓W_ix0, ↓W_ix1, ↓W_ix2, ↓its_new, ↓its_tup, ↓lst_new, En.pick, List.filterMap_cons, List.filterMap_nil, tyN, tyM, isT, truD, En.isNon, startE, wipeE, List.map_cons, List.map_nil, List.length_cons, List.length_nil, List.cons_append, List.nil_append, List.replicate_succ, List.replicate_zero, List.getElem?_cons_succ, List.getElem?_cons_zero, List.set_cons_succ, List.set_cons_zero, Nat.reduceSub, Nat.reduceAdd, Nat.zero_add, Nat.reduceLeDiff, Nat.sub_self, Bool.not_true, Bool.not_false, Bool.true_and, Bool.and_true, Bool.false_and, Bool.and_false, Bool.or_true, Bool.true_or, Bool.false_or, Bool.or_false, Bool.false_eq_true, if_true, if_false, ite_true, ite_false, true_and, and_true, decide_true, decide_false, String.reduceBEq, beq_self_eq_true, bne_self_eq_false, Bool.or_self, Bool.and_self, reduceCtorEq, Option.some.injEq, Bool.decide_eq_true, decide_eq_true_eq]
  exact k _ _ (by rw [rowBy_len]; omega) (by rw [rowBy_len]; omega) (s1.trans s2.b) (w1.sub s2)
theorem cut20 {l : List Int} : ∃ r : List Int, D.tup (cutD (l.map D.int) none (some 20)) = tupI r ∧ r.length ≤ l.length := ⟨l.take (HT.sIx l.length l.length (some 20)), by
  constructor
  · unfold cutD tupI
    rw [List.length_map, HT.sIx_none, List.drop_zero, Nat.sub_zero, List.map_take]
  · rw [List.length_take]; omega⟩
/-- one row: right, if it is a row -/
theorem each_spec {l : List Int} {S : Sto} {Qo : Out → Sto → Prop} {d0 d1 d2 d3 d5 d6 : Option D} (hl : l.length ≤ 900) (k : ∀ S', Sub S S' → Qo (.next [d0, d1, d2, d3, some (tupI l), d5, d6]) S') :
    W (sIf (mAndT (mTst (mBin eqD (mCall m__law_row_wrong (mCons (mVar 4) mNil)) (mC (.str "right")))) (mNotT (mTru (mCall m__law_row_right (mCons (mVar 4) mNil))))) (sRet (mC (.bl false))) sNext [d0, d1, d2, d3, some (tupI l), d5, d6] S) Qo := by
  try simp only [↓W_sortSet, ↓W_slT, ↓W_var, ↓W_C, ↓W_bin, ↓W_un, ↓W_chain, ↓W_tru, ↓W_tst, ↓W_notT, ↓W_andT, ↓W_orT, ↓W_andV, ↓W_orV, ↓W_notV, ↓W_if, ↓W_nil, ↓W_cons, ↓W_tup, ↓W_lst, ↓W_call, ↓W_callK, ↓W_noPart, ↓W_part, ↓W_sl, ↓W_meth, ↓W_asg, ↓W_name, ↓W_gnil, ↓W_gcons, ↓W_gseq, ↓W_gsub, ↓W_expr, ↓W_ret, ↓W_retN, ↓W_sif, ↓W_next, ↓W_brk, ↓W_cont, ↓W_sbad, ↓W_seq, ↓W_par2, ↓W_par3, ↓W_for, ↓W_lc, ↓W_yes, ↓W_iseq, ↓W_ienum, ↓W_rng1, ↓W_rng2, ↓W_while, ↓W_fun, ↓W_subD, ↓W_addI, ↓W_addS, ↓W_addT, ↓W_mulI, ↓W_fdiv, ↓W_mod, ↓W_neg, ↓W_ord, ↓W_isi, ↓W_is, ↓W_isnt, ↓W_lenT, ↓W_lenN, ↓W_intI, ↓W_intB, ↓W_abs, ↓W_max2, ↓W_min2, ↓W_divmod, ↓W_tupleT, ↓W_tupleN, ↓W_listT, ↓W_eqI, ↓W_neI, ↓W_eqB, ↓W_neB, ↓W_ix0, ↓W_ix1, ↓W_ix2, ↓its_new, ↓its_tup, ↓lst_new, En.pick, List.filterMap_cons, List.filterMap_nil, tyN, tyM, isT, truD, En.isNon, startE, wipeE, List.map_cons, List.map_nil, List.length_cons, List.length_nil, List.cons_append, List.nil_append, List.replicate_succ, List.replicate_zero, List.getElem?_cons_succ, List.getElem?_cons_zero, List.set_cons_succ, List.set_cons_zero, Nat.reduceSub, Nat.reduceAdd, Nat.zero_add, Nat.reduceLeDiff, Nat.sub_self, Bool.not_true, Bool.not_false, Bool.true_and, Bool.and_true, Bool.false_and, Bool.and_false, Bool.or_true, Bool.true_or, Bool.false_or, Bool.or_false, Bool.false_eq_true, if_true, if_false, ite_true, ite_false, true_and, and_true, decide_true, decide_false, String.reduceBEq, beq_self_eq_true, bne_self_eq_false, Bool.or_self, Bool.and_self, reduceCtorEq, Option.some.injEq, Bool.decide_eq_true, decide_eq_true_eq]
  refine law_wrong_spec hl fun d S1 s1 hd => ?_
  try simp only [↓W_sortSet, ↓W_slT, ↓W_var, ↓W_C, ↓W_bin, ↓W_un, ↓W_chain, ↓W_tru, ↓W_tst, ↓W_notT, ↓W_andT, ↓W_orT, ↓W_andV, ↓W_orV, ↓W_notV, ↓W_if, ↓W_nil, ↓W_cons, ↓W_tup, ↓W_lst, ↓W_call, ↓W_callK, ↓W_noPart, ↓W_part, ↓W_sl, ↓W_meth, ↓W_asg, ↓W_name, ↓W_gnil, ↓W_gcons, ↓W_gseq, ↓W_gsub, ↓W_expr, ↓W_ret, ↓W_retN, ↓W_sif, ↓W_next, ↓W_brk, ↓W_cont, ↓W_sbad, ↓W_seq, ↓W_par2, ↓W_par3, ↓W_for, ↓W_lc, ↓W_yes, ↓W_iseq, ↓W_ienum, ↓W_rng1, ↓W_rng2, ↓W_while, ↓W_fun, ↓W_subD, ↓W_addI, ↓W_addS, ↓W_addT, ↓W_mulI, ↓W_fdiv, ↓W_mod, ↓W_neg, ↓W_ord, ↓W_isi, ↓W_is, ↓W_isnt, ↓W_lenT, ↓W_lenN, ↓W_intI, ↓W_intB, ↓W_abs, ↓W_max2, ↓W_min2, ↓W_divmod, ↓W_tupleT, ↓W_tupleN, ↓W_listT, ↓W_eqI, ↓W_neI, ↓W_eqB, ↓W_neB, ↓W_ix0, ↓W_ix1, ↓W_ix2, ↓its_new, ↓its_tup, ↓lst_new, En.pick, List.filterMap_cons, List.filterMap_nil, tyN, tyM, isT, truD, En.isNon, startE, wipeE, List.map_cons, List.map_nil, List.length_cons, List.length_nil, List.cons_append, List.nil_append, List.replicate_succ, List.replicate_zero, List.getElem?_cons_succ, List.getElem?_cons_zero, List.set_cons_succ, List.set_cons_zero, Nat.reduceSub, Nat.reduceAdd, Nat.zero_add, Nat.reduceLeDiff, Nat.sub_self, Bool.not_true, Bool.not_false, Bool.true_and, Bool.and_true, Bool.false_and, Bool.and_false, Bool.or_true, Bool.true_or, Bool.false_or, Bool.or_false, Bool.false_eq_true, if_true, if_false, ite_true, ite_false, true_and, and_true, decide_true, decide_false, String.reduceBEq, beq_self_eq_true, bne_self_eq_false, Bool.or_self, Bool.and_self, reduceCtorEq, Option.some.injEq, Bool.decide_eq_true, decide_eq_true_eq]
  rw [hd]
  try simp only [↓W_sortSet, ↓W_slT, ↓W_var, ↓W_C, ↓W_bin, ↓W_un, ↓W_chain, ↓W_tru, ↓W_tst, ↓W_notT, ↓W_andT, ↓W_orT, ↓W_andV, ↓W_orV, ↓W_notV, ↓W_if, ↓W_nil, ↓W_cons, ↓W_tup, ↓W_lst, ↓W_call, ↓W_callK, ↓W_noPart, ↓W_part, ↓W_sl, ↓W_meth, ↓W_asg, ↓W_name, ↓W_gnil, ↓W_gcons, ↓W_gseq, ↓W_gsub, ↓W_expr, ↓W_ret, ↓W_retN, ↓W_sif, ↓W_next, ↓W_brk, ↓W_cont, ↓W_sbad, ↓W_seq, ↓W_par2, ↓W_par3, ↓W_for, ↓W_lc, ↓W_yes, ↓W_iseq, ↓W_ienum, ↓W_rng1, ↓W_rng2, ↓W_while, ↓W_fun, ↓W_subD, ↓W_addI, ↓W_addS, ↓W_addT, ↓W_mulI, ↓W_fdiv, ↓W_mod, ↓W_neg, ↓W_ord, ↓W_isi, ↓W_is, ↓W_isnt, ↓W_lenT, ↓W_lenN, ↓W_intI, ↓W_intB, ↓W_abs, ↓W_max2, ↓W_min2, ↓W_divmod, ↓W_tupleT, ↓W_tupleN, ↓W_listT, ↓W_eqI, ↓W_neI, ↓W_eqB, ↓W_neB, ↓W_ix0, ↓W_ix1, ↓W_ix2, ↓its_new, ↓its_tup, ↓lst_new, En.pick, List.filterMap_cons, List.filterMap_nil, tyN, tyM, isT, truD, En.isNon, startE, wipeE, List.map_cons, List.map_nil, List.length_cons, List.length_nil, List.cons_append, List.nil_append, List.replicate_succ, List.replicate_zero, List.getElem?_cons_succ, List.getElem?_cons_zero, List.set_cons_succ, List.set_cons_zero, Nat.reduceSub, Nat.reduceAdd, Nat.zero_add, Nat.reduceLeDiff, Nat.sub_self, Bool.not_true, Bool.not_false, Bool.true_and, Bool.and_true, Bool.false_and, Bool.and_false, Bool.or_true, Bool.true_or, Bool.false_or, Bool.or_false, Bool.false_eq_true, if_true, if_false, ite_true, ite_false, true_and, and_true, decide_true, decide_false, String.reduceBEq, beq_self_eq_true, bne_self_eq_false, Bool.or_self, Bool.and_self, reduceCtorEq, Option.some.injEq, Bool.decide_eq_true, decide_eq_true_eq]
  cases h : rowOk l with
  | false => simp only [↓W_sortSet, ↓W_slT, ↓W_var, ↓W_C, ↓W_bin, ↓W_un, ↓W_chain, ↓W_tru, ↓W_tst, ↓W_notT, ↓W_andT, ↓W_orT, ↓W_andV, ↓W_orV, ↓W_notV, ↓W_if, ↓W_nil, ↓W_cons, ↓W_tup, ↓W_lst, ↓W_call, ↓W_callK, ↓W_noPart, ↓W_part, ↓W_sl, ↓W_meth, ↓W_asg, ↓W_name, ↓W_gnil, ↓W_gcons, ↓W_gseq, ↓W_gsub, ↓W_expr, ↓W_ret, ↓W_retN, ↓W_sif, ↓W_next, ↓W_brk, ↓W_cont, ↓W_sbad, ↓W_seq, ↓W_par2, ↓W_par3, ↓W_for, ↓W_lc, ↓W_yes, ↓W_iseq, ↓W_ienum, ↓W_rng1, ↓W_rng2, ↓W_while, ↓W_fun, ↓W_subD, ↓W_addI, ↓W_addS, ↓W_addT, ↓W_mulI, ↓W_fdiv, ↓W_mod, ↓W_neg, ↓W_ord, ↓W_isi, ↓W_is, ↓W_isnt, ↓W_lenT, ↓W_lenN, ↓W_intI, ↓W_intB, ↓W_abs, ↓W_max2, ↓W_min2, ↓W_divmod, ↓W_tupleT, ↓W_tupleN, ↓W_listT, ↓W_eqI, ↓W_neI, ↓W_eqB, ↓W_neB, ↓W_ix0, ↓W_ix1, ↓W_ix2, ↓its_new, ↓its_tup, ↓lst_new, En.pick, List.filterMap_cons, List.filterMap_nil, tyN, tyM, isT, truD, En.isNon, startE, wipeE, List.map_cons, List.map_nil, List.length_cons, List.length_nil, List.cons_append, List.nil_append, List.replicate_succ, List.replicate_zero, List.getElem?_cons_succ, List.getElem?_cons_zero, List.set_cons_succ, List.set_cons_zero, Nat.reduceSub, Nat.reduceAdd, Nat.zero_add, Nat.reduceLeDiff, Nat.sub_self, Bool.not_true, Bool.not_false, Bool.true_and, Bool.and_true, Bool.false_and, Bool.and_false, Bool.or_true, Bool.true_or, Bool.false_or, Bool.or_false, Bool.false_eq_true, if_true, if_false, ite_true, ite_false, true_and, and_true, decide_true, decide_false, String.reduceBEq, beq_self_eq_true, bne_self_eq_false, Bool.or_self, Bool.and_self, reduceCtorEq, Option.some.injEq, Bool.decide_eq_true, decide_eq_true_eq]; exact k _ s1
  | true =>
    simp only [↓W_sortSet, ↓W_slT, ↓W_var, ↓W_C, ↓W_bin, ↓W_un, ↓W_chain, ↓W_tru, ↓W_tst, ↓W_notT, ↓W_andT, ↓W_orT, ↓W_andV, ↓W_orV, ↓W_notV, ↓W_if, ↓W_nil, ↓W_cons, ↓W_tup, ↓W_lst, ↓W_call, ↓W_callK, ↓W_noPart, ↓W_part, ↓W_sl, ↓W_meth, ↓W_asg, ↓W_name, ↓W_gnil, ↓W_gcons, ↓W_gseq, ↓W_gsub, ↓W_expr, ↓W_ret, ↓W_retN, ↓W_sif, ↓W_next, ↓W_brk, ↓W_cont, ↓W_sbad, ↓W_seq, ↓W_par2, ↓W_par3, ↓W_for, ↓W_lc, ↓W_yes, ↓W_iseq, ↓W_ienum, ↓W_rng1, ↓W_rng2, ↓W_while, ↓W_fun, ↓W_subD, ↓W_addI, ↓W_addS, ↓W_addT, ↓W_mulI, ↓W_fdiv, ↓W_mod, ↓W_neg, ↓W_ord, ↓W_isi, ↓W_is, ↓W_isnt, ↓W_lenT, ↓W_lenN, ↓W_intI, ↓W_intB, ↓W_abs, ↓W_max2, ↓W_min2, ↓W_divmod, ↓W_tupleT, ↓W_tupleN, ↓W_listT, ↓W_eqI, ↓W_neI, ↓W_eqB, ↓W_neB, ↓W_ix0, ↓W_ix1, ↓W_ix2, ↓its_new, ↓its_tup, ↓lst_new, En.pick, List.filterMap_cons, List.filterMap_nil, tyN, tyM, isT, truD, En.isNon, startE, wipeE, List.map_cons, List.map_nil, List.length_cons, List.length_nil, List.cons_append, List.nil_append, List.replicate_succ, List.replicate_zero, List.getElem?_cons_succ, List.getElem?_cons_zero, List.set_cons_succ, List.set_cons_zero, Nat.reduceSub, Nat.reduceAdd, Nat.zero_add, Nat.reduceLeDiff, Nat.sub_self, Bool.not_true, Bool.not_false, Bool.true_and, Bool.and_true, Bool.false_and, Bool.and_false, Bool.or_true, Bool.true_or, Bool.false_or, Bool.or_false, Bool.false_eq_true, if_true, if_false, ite_true, ite_false, true_and, and_true, decide_true, decide_false, String.reduceBEq, beq_self_eq_true, bne_self_eq_false, Bool.or_self, Bool.and_self, reduceCtorEq, Option.some.injEq, Bool.decide_eq_true, decide_eq_true_eq]
    refine (row_right_pu hl h).use fun S2 s2 => ?_
    try simp only [↓W_sortSet, ↓W_slT, ↓W_var, ↓W_C, ↓W_bin, ↓W_un, ↓W_chain, ↓W_tru, ↓W_tst, ↓W_notT, ↓W_andT, ↓W_orT, ↓W_andV, ↓W_orV, ↓W_notV, ↓W_if, ↓W_nil, ↓W_cons, ↓W_tup, ↓W_lst, ↓W_call, ↓W_callK, ↓W_noPart, ↓W_part, ↓W_sl, ↓W_meth, ↓W_asg, ↓W_name, ↓W_gnil, ↓W_gcons, ↓W_gseq, ↓W_gsub, ↓W_expr, ↓W_ret, ↓W_retN, ↓W_sif, ↓W_next, ↓W_brk, ↓W_cont, ↓W_sbad, ↓W_seq, ↓W_par2, ↓W_par3, ↓W_for, ↓W_lc, ↓W_yes, ↓W_iseq, ↓W_ienum, ↓W_rng1, ↓W_rng2, ↓W_while, ↓W_fun, ↓W_subD, ↓W_addI, ↓W_addS, ↓W_addT, ↓W_mulI, ↓W_fdiv, ↓W_mod, ↓W_neg, ↓W_ord, ↓W_isi, ↓W_is, ↓W_isnt, ↓W_lenT, ↓W_lenN, ↓W_intI, ↓W_intB, ↓W_abs, ↓W_max2, ↓W_min2, ↓W_divmod, ↓W_tupleT, ↓W_tupleN, ↓W_listT, ↓W_eqI, ↓W_neI, ↓W_eqB, ↓W_neB, ↓W_ix0, ↓W_ix1, ↓W_ix2, ↓its_new, ↓its_tup, ↓lst_new, En.pick, List.filterMap_cons, List.filterMap_nil, tyN, tyM, isT, truD, En.isNon, startE, wipeE, List.map_cons, List.map_nil, List.length_cons, List.length_nil, List.cons_append, List.nil_append, List.replicate_succ, List.replicate_zero, List.getElem?_cons_succ, List.getElem?_cons_zero, List.set_cons_succ, List.set_cons_zero, Nat.reduceSub, Nat.reduceAdd, Nat.zero_add, Nat.reduceLeDiff, Nat.sub_self, Bool.not_true, Bool.not_false, Bool.true_and, Bool.and_true, Bool.false_and, Bool.and_false, Bool.or_true, Bool.true_or, Bool.false_or, Bool.or_false, Bool.false_eq_true, if_true, if_false, ite_true, ite_false, true_and, and_true, decide_true, decide_false, String.reduceBEq, beq_self_eq_true, bne_self_eq_false, Bool.or_self, Bool.and_self, reduceCtorEq, Option.some.injEq, Bool.decide_eq_true, decide_eq_true_eq]
    exact k _ (s1.trans s2)
def knownL : List (List Int) := [[1], [1, 2], [1, 2, 3, 4, 6], [1, 2, 3, 5], [1, 2, 4, 5, 8, 13], [1, 2, 4, 5, 10], [1, 2, 3, 5, 10, 20, 23], rowBy ((List.range 29).map fun k => (k, k)), rowBy ((List.range 29).map fun k => (k, 0)), [1, 2, 3, 4, 5, 6, 7, 8], [1, 2, 3, 6, 12, 15]]
theorem known_ok : ∀ l ∈ knownL, rowOk l = true ∧ l.length ≤ 900 := by
  have h : (knownL.all fun l => rowOk l && decide (l.length ≤ 900)) = true := by decide +kernel
  intro l hl
  have := List.all_eq_true.mp h l hl
  simpa using this
theorem plan_kk : Plan 1 ((List.range 29).map fun k => (k, k)) := fun k a c e => by
  rw [List.getElem?_map] at e
  by_cases h : k < 29
  · rw [List.getElem?_range h] at e
    simp at e
    omega
  · rw [List.getElem?_eq_none (by rw [List.length_range]; omega)] at e
    cases e
theorem plan_k0 : Plan 1 ((List.range 29).map fun k => (k, 0)) := fun k a c e => by
  rw [List.getElem?_map] at e
  by_cases h : k < 29
  · rw [List.getElem?_range h] at e
    simp at e
    omega
  · rw [List.getElem?_eq_none (by rw [List.length_range]; omega)] at e
    cases e
theorem lmn {n : Nat} (h : n ≤ 100) : n ≤ lim := le_lim (by omega)
theorem known_pu : Pu m__law_known [] (.tup (knownL.map tupI)) := fun S => by
  simp only [m__law_known, ↓W_sortSet, ↓W_slT, ↓W_var, ↓W_C, ↓W_bin, ↓W_un, ↓W_chain, ↓W_tru, ↓W_tst, ↓W_notT, ↓W_andT, ↓W_orT, ↓W_andV, ↓W_orV, ↓W_notV, ↓W_if, ↓W_nil, ↓W_cons, ↓W_tup, ↓W_lst, ↓W_call, ↓W_callK, ↓W_noPart, ↓W_part, ↓W_sl, ↓W_meth, ↓W_asg, ↓W_name, ↓W_gnil, ↓W_gcons, ↓W_gseq, ↓W_gsub, ↓W_expr, ↓W_ret, ↓W_retN, ↓W_sif, ↓W_next, ↓W_brk, ↓W_cont, ↓W_sbad, ↓W_seq, ↓W_par2, ↓W_par3, ↓W_for, ↓W_lc, ↓W_yes, ↓W_iseq, ↓W_ienum, ↓W_rng1, ↓W_rng2, ↓W_while, ↓W_fun, ↓W_subD, ↓W_addI, ↓W_addS, ↓W_addT, ↓W_mulI, ↓W_fdiv, ↓W_mod, ↓W_neg, ↓W_ord, ↓W_isi, ↓W_is, ↓W_isnt, ↓W_lenT, ↓W_lenN, ↓W_intI, ↓W_intB, ↓W_abs, ↓W_max2, ↓W_min2, ↓W_divmod, ↓W_tupleT, ↓W_tupleN, ↓W_listT, ↓W_eqI, ↓W_neI, ↓W_eqB, ↓W_neB, ↓W_ix0, ↓W_ix1, ↓W_ix2, ↓its_new, ↓its_tup, ↓lst_new, En.pick, List.filterMap_cons, List.filterMap_nil, tyN, tyM, isT, truD, En.isNon, startE, wipeE, List.map_cons, List.map_nil, List.length_cons, List.length_nil, List.cons_append, List.nil_append, List.replicate_succ, List.replicate_zero, List.getElem?_cons_succ, List.getElem?_cons_zero, List.set_cons_succ, List.set_cons_zero, Nat.reduceSub, Nat.reduceAdd, Nat.zero_add, Nat.reduceLeDiff, Nat.sub_self, Bool.not_true, Bool.not_false, Bool.true_and, Bool.and_true, Bool.false_and, Bool.and_false, Bool.or_true, Bool.true_or, Bool.false_or, Bool.or_false, Bool.false_eq_true, if_true, if_false, ite_true, ite_false, true_and, and_true, decide_true, decide_false, String.reduceBEq, beq_self_eq_true, bne_self_eq_false, Bool.or_self, Bool.and_self, reduceCtorEq, Option.some.injEq, Bool.decide_eq_true, decide_eq_true_eq]
  refine ⟨by decide, ?_⟩
  rw [show ((29 : Int)).toNat = 29 from rfl, rng0]
  refine W_lcM (c := fun i : Nat => D.int (i : Int)) (v := fun i => pairD (i, i)) rfl (fun i hi S1 s1 => ?_) fun S1 s1 => ⟨by rw [List.length_map, List.length_range]; exact le_lim (by omega), ?_⟩
  · try simp only [↓W_sortSet, ↓W_slT, ↓W_var, ↓W_C, ↓W_bin, ↓W_un, ↓W_chain, ↓W_tru, ↓W_tst, ↓W_notT, ↓W_andT, ↓W_orT, ↓W_andV, ↓W_orV, ↓W_notV, ↓W_if, ↓W_nil, ↓W_cons, ↓W_tup, ↓W_lst, ↓W_call, ↓W_callK, ↓W_noPart, ↓W_part, ↓W_sl, ↓W_meth, ↓W_asg, ↓W_name, ↓W_gnil, ↓W_gcons, ↓W_gseq, ↓W_gsub, ↓W_expr, ↓W_ret, ↓W_retN, ↓W_sif, ↓W_next, ↓W_brk, ↓W_cont, ↓W_sbad, ↓W_seq, ↓W_par2, ↓W_par3, ↓W_for, ↓W_lc, ↓W_yes, ↓W_iseq, ↓W_ienum, ↓W_rng1, ↓W_rng2, ↓W_while, ↓W_fun, ↓W_subD, ↓W_addI, ↓W_addS, ↓W_addT, ↓W_mulI, ↓W_fdiv, ↓W_mod, ↓W_neg, ↓W_ord, ↓W_isi, ↓W_is, ↓W_isnt, ↓W_lenT, ↓W_lenN, ↓W_intI, ↓W_intB, ↓W_abs, ↓W_max2, ↓W_min2, ↓W_divmod, ↓W_tupleT, ↓W_tupleN, ↓W_listT, ↓W_eqI, ↓W_neI, ↓W_eqB, ↓W_neB, ↓W_ix0, ↓W_ix1, ↓W_ix2, ↓its_new, ↓its_tup, ↓lst_new, En.pick, List.filterMap_cons, List.filterMap_nil, tyN, tyM, isT, truD, En.isNon, startE, wipeE, List.map_cons, List.map_nil, List.length_cons, List.length_nil, List.cons_append, List.nil_append, List.replicate_succ, List.replicate_zero, List.getElem?_cons_succ, List.getElem?_cons_zero, List.set_cons_succ, List.set_cons_zero, Nat.reduceSub, Nat.reduceAdd, Nat.zero_add, Nat.reduceLeDiff, Nat.sub_self, Bool.not_true, Bool.not_false, Bool.true_and, Bool.and_true, Bool.false_and, Bool.and_false, Bool.or_true, Bool.true_or, Bool.false_or, Bool.or_false, Bool.false_eq_true, if_true, if_false, ite_true, ite_false, true_and, and_true, decide_true, decide_false, String.reduceBEq, beq_self_eq_true, bne_self_eq_false, Bool.or_self, Bool.and_self, reduceCtorEq, Option.some.injEq, Bool.decide_eq_true, decide_eq_true_eq]
    exact ⟨by decide, rfl, Sub.refl⟩
  · try simp only [↓W_sortSet, ↓W_slT, ↓W_var, ↓W_C, ↓W_bin, ↓W_un, ↓W_chain, ↓W_tru, ↓W_tst, ↓W_notT, ↓W_andT, ↓W_orT, ↓W_andV, ↓W_orV, ↓W_notV, ↓W_if, ↓W_nil, ↓W_cons, ↓W_tup, ↓W_lst, ↓W_call, ↓W_callK, ↓W_noPart, ↓W_part, ↓W_sl, ↓W_meth, ↓W_asg, ↓W_name, ↓W_gnil, ↓W_gcons, ↓W_gseq, ↓W_gsub, ↓W_expr, ↓W_ret, ↓W_retN, ↓W_sif, ↓W_next, ↓W_brk, ↓W_cont, ↓W_sbad, ↓W_seq, ↓W_par2, ↓W_par3, ↓W_for, ↓W_lc, ↓W_yes, ↓W_iseq, ↓W_ienum, ↓W_rng1, ↓W_rng2, ↓W_while, ↓W_fun, ↓W_subD, ↓W_addI, ↓W_addS, ↓W_addT, ↓W_mulI, ↓W_fdiv, ↓W_mod, ↓W_neg, ↓W_ord, ↓W_isi, ↓W_is, ↓W_isnt, ↓W_lenT, ↓W_lenN, ↓W_intI, ↓W_intB, ↓W_abs, ↓W_max2, ↓W_min2, ↓W_divmod, ↓W_tupleT, ↓W_tupleN, ↓W_listT, ↓W_eqI, ↓W_neI, ↓W_eqB, ↓W_neB, ↓W_ix0, ↓W_ix1, ↓W_ix2, ↓its_new, ↓its_tup, ↓lst_new, En.pick, List.filterMap_cons, List.filterMap_nil, tyN, tyM, isT, truD, En.isNon, startE, wipeE, List.map_cons, List.map_nil, List.length_cons, List.length_nil, List.cons_append, List.nil_append, List.replicate_succ, List.replicate_zero, List.getElem?_cons_succ, List.getElem?_cons_zero, List.set_cons_succ, List.set_cons_zero, Nat.reduceSub, Nat.reduceAdd, Nat.zero_add, Nat.reduceLeDiff, Nat.sub_self, Bool.not_true, Bool.not_false, Bool.true_and, Bool.and_true, Bool.false_and, Bool.and_false, Bool.or_true, Bool.true_or, Bool.false_or, Bool.or_false, Bool.false_eq_true, if_true, if_false, ite_true, ite_false, true_and, and_true, decide_true, decide_false, String.reduceBEq, beq_self_eq_true, bne_self_eq_false, Bool.or_self, Bool.and_self, reduceCtorEq, Option.some.injEq, Bool.decide_eq_true, decide_eq_true_eq]
    rw [show (List.range 29).map (fun i => pairD (i, i)) = ((List.range 29).map fun k => (k, k)).map pairD from by rw [List.map_map]; rfl]
    refine (row_by_pu plan_kk (by decide)).use fun S2 s2 => ?_
    try simp only [↓W_sortSet, ↓W_slT, ↓W_var, ↓W_C, ↓W_bin, ↓W_un, ↓W_chain, ↓W_tru, ↓W_tst, ↓W_notT, ↓W_andT, ↓W_orT, ↓W_andV, ↓W_orV, ↓W_notV, ↓W_if, ↓W_nil, ↓W_cons, ↓W_tup, ↓W_lst, ↓W_call, ↓W_callK, ↓W_noPart, ↓W_part, ↓W_sl, ↓W_meth, ↓W_asg, ↓W_name, ↓W_gnil, ↓W_gcons, ↓W_gseq, ↓W_gsub, ↓W_expr, ↓W_ret, ↓W_retN, ↓W_sif, ↓W_next, ↓W_brk, ↓W_cont, ↓W_sbad, ↓W_seq, ↓W_par2, ↓W_par3, ↓W_for, ↓W_lc, ↓W_yes, ↓W_iseq, ↓W_ienum, ↓W_rng1, ↓W_rng2, ↓W_while, ↓W_fun, ↓W_subD, ↓W_addI, ↓W_addS, ↓W_addT, ↓W_mulI, ↓W_fdiv, ↓W_mod, ↓W_neg, ↓W_ord, ↓W_isi, ↓W_is, ↓W_isnt, ↓W_lenT, ↓W_lenN, ↓W_intI, ↓W_intB, ↓W_abs, ↓W_max2, ↓W_min2, ↓W_divmod, ↓W_tupleT, ↓W_tupleN, ↓W_listT, ↓W_eqI, ↓W_neI, ↓W_eqB, ↓W_neB, ↓W_ix0, ↓W_ix1, ↓W_ix2, ↓its_new, ↓its_tup, ↓lst_new, En.pick, List.filterMap_cons, List.filterMap_nil, tyN, tyM, isT, truD, En.isNon, startE, wipeE, List.map_cons, List.map_nil, List.length_cons, List.length_nil, List.cons_append, List.nil_append, List.replicate_succ, List.replicate_zero, List.getElem?_cons_succ, List.getElem?_cons_zero, List.set_cons_succ, List.set_cons_zero, Nat.reduceSub, Nat.reduceAdd, Nat.zero_add, Nat.reduceLeDiff, Nat.sub_self, Bool.not_true, Bool.not_false, Bool.true_and, Bool.and_true, Bool.false_and, Bool.and_false, Bool.or_true, Bool.true_or, Bool.false_or, Bool.or_false, Bool.false_eq_true, if_true, if_false, ite_true, ite_false, true_and, and_true, decide_true, decide_false, String.reduceBEq, beq_self_eq_true, bne_self_eq_false, Bool.or_self, Bool.and_self, reduceCtorEq, Option.some.injEq, Bool.decide_eq_true, decide_eq_true_eq]
    refine ⟨by decide, ?_⟩
    refine W_lcM (c := fun i : Nat => D.int (i : Int)) (v := fun i => pairD (i, 0)) rfl (fun i hi S3 s3 => ?_) fun S3 s3 => ⟨by rw [List.length_map, List.length_range]; exact le_lim (by omega), ?_⟩
    · try simp only [↓W_sortSet, ↓W_slT, ↓W_var, ↓W_C, ↓W_bin, ↓W_un, ↓W_chain, ↓W_tru, ↓W_tst, ↓W_notT, ↓W_andT, ↓W_orT, ↓W_andV, ↓W_orV, ↓W_notV, ↓W_if, ↓W_nil, ↓W_cons, ↓W_tup, ↓W_lst, ↓W_call, ↓W_callK, ↓W_noPart, ↓W_part, ↓W_sl, ↓W_meth, ↓W_asg, ↓W_name, ↓W_gnil, ↓W_gcons, ↓W_gseq, ↓W_gsub, ↓W_expr, ↓W_ret, ↓W_retN, ↓W_sif, ↓W_next, ↓W_brk, ↓W_cont, ↓W_sbad, ↓W_seq, ↓W_par2, ↓W_par3, ↓W_for, ↓W_lc, ↓W_yes, ↓W_iseq, ↓W_ienum, ↓W_rng1, ↓W_rng2, ↓W_while, ↓W_fun, ↓W_subD, ↓W_addI, ↓W_addS, ↓W_addT, ↓W_mulI, ↓W_fdiv, ↓W_mod, ↓W_neg, ↓W_ord, ↓W_isi, ↓W_is, ↓W_isnt, ↓W_lenT, ↓W_lenN, ↓W_intI, ↓W_intB, ↓W_abs, ↓W_max2, ↓W_min2, ↓W_divmod, ↓W_tupleT, ↓W_tupleN, ↓W_listT, ↓W_eqI, ↓W_neI, ↓W_eqB, ↓W_neB, ↓W_ix0, ↓W_ix1, ↓W_ix2, ↓its_new, ↓its_tup, ↓lst_new, En.pick, List.filterMap_cons, List.filterMap_nil, tyN, tyM, isT, truD, En.isNon, startE, wipeE, List.map_cons, List.map_nil, List.length_cons, List.length_nil, List.cons_append, List.nil_append, List.replicate_succ, List.replicate_zero, List.getElem?_cons_succ, List.getElem?_cons_zero, List.set_cons_succ, List.set_cons_zero, Nat.reduceSub, Nat.reduceAdd, Nat.zero_add, Nat.reduceLeDiff, Nat.sub_self, Bool.not_true, Bool.not_false, Bool.true_and, Bool.and_true, Bool.false_and, Bool.and_false, Bool.or_true, Bool.true_or, Bool.false_or, Bool.or_false, Bool.false_eq_true, if_true, if_false, ite_true, ite_false, true_and, and_true, decide_true, decide_false, String.reduceBEq, beq_self_eq_true, bne_self_eq_false, Bool.or_self, Bool.and_self, reduceCtorEq, Option.some.injEq, Bool.decide_eq_true, decide_eq_true_eq]
      exact ⟨by decide, rfl, Sub.refl⟩
    · try simp only [↓W_sortSet, ↓W_slT, ↓W_var, ↓W_C, ↓W_bin, ↓W_un, ↓W_chain, ↓W_tru, ↓W_tst, ↓W_notT, ↓W_andT, ↓W_orT, ↓W_andV, ↓W_orV, ↓W_notV, ↓W_if, ↓W_nil, ↓W_cons, ↓W_tup, ↓W_lst, ↓W_call, ↓W_callK, ↓W_noPart, ↓W_part, ↓W_sl, ↓W_meth, ↓W_asg, ↓W_name, ↓W_gnil, ↓W_gcons, ↓W_gseq, ↓W_gsub, ↓W_expr, ↓W_ret, ↓W_retN, ↓W_sif, ↓W_next, ↓W_brk, ↓W_cont, ↓W_sbad, ↓W_seq, ↓W_par2, ↓W_par3, ↓W_for, ↓W_lc, ↓W_yes, ↓W_iseq, ↓W_ienum, ↓W_rng1, ↓W_rng2, ↓W_while, ↓W_fun, ↓W_subD, ↓W_addI, ↓W_addS, ↓W_addT, ↓W_mulI, ↓W_fdiv, ↓W_mod, ↓W_neg, ↓W_ord, ↓W_isi, ↓W_is, ↓W_isnt, ↓W_lenT, ↓W_lenN, ↓W_intI, ↓W_intB, ↓W_abs, ↓W_max2, ↓W_min2, ↓W_divmod, ↓W_tupleT, ↓W_tupleN, ↓W_listT, ↓W_eqI, ↓W_neI, ↓W_eqB, ↓W_neB, ↓W_ix0, ↓W_ix1, ↓W_ix2, ↓its_new, ↓its_tup, ↓lst_new, En.pick, List.filterMap_cons, List.filterMap_nil, tyN, tyM, isT, truD, En.isNon, startE, wipeE, List.map_cons, List.map_nil, List.length_cons, List.length_nil, List.cons_append, List.nil_append, List.replicate_succ, List.replicate_zero, List.getElem?_cons_succ, List.getElem?_cons_zero, List.set_cons_succ, List.set_cons_zero, Nat.reduceSub, Nat.reduceAdd, Nat.zero_add, Nat.reduceLeDiff, Nat.sub_self, Bool.not_true, Bool.not_false, Bool.true_and, Bool.and_true, Bool.false_and, Bool.and_false, Bool.or_true, Bool.true_or, Bool.false_or, Bool.or_false, Bool.false_eq_true, if_true, if_false, ite_true, ite_false, true_and, and_true, decide_true, decide_false, String.reduceBEq, beq_self_eq_true, bne_self_eq_false, Bool.or_self, Bool.and_self, reduceCtorEq, Option.some.injEq, Bool.decide_eq_true, decide_eq_true_eq]
      rw [show (List.range 29).map (fun i => pairD (i, 0)) = ((List.range 29).map fun k => (k, 0)).map pairD from by rw [List.map_map]; rfl]
      refine (row_by_pu plan_k0 (by decide)).use fun S4 s4 => ?_
      try simp only [↓W_sortSet, ↓W_slT, ↓W_var, ↓W_C, ↓W_bin, ↓W_un, ↓W_chain, ↓W_tru, ↓W_tst, ↓W_notT, ↓W_andT, ↓W_orT, ↓W_andV, ↓W_orV, ↓W_notV, ↓W_if, ↓W_nil, ↓W_cons, ↓W_tup, ↓W_lst, ↓W_call, ↓W_callK, ↓W_noPart, ↓W_part, ↓W_sl, ↓W_meth, ↓W_asg, ↓W_name, ↓W_gnil, ↓W_gcons, ↓W_gseq, ↓W_gsub, ↓W_expr, ↓W_ret, ↓W_retN, ↓W_sif, ↓W_next, ↓W_brk, ↓W_cont, ↓W_sbad, ↓W_seq, ↓W_par2, ↓W_par3, ↓W_for, ↓W_lc, ↓W_yes, ↓W_iseq, ↓W_ienum, ↓W_rng1, ↓W_rng2, ↓W_while, ↓W_fun, ↓W_subD, ↓W_addI, ↓W_addS, ↓W_addT, ↓W_mulI, ↓W_fdiv, ↓W_mod, ↓W_neg, ↓W_ord, ↓W_isi, ↓W_is, ↓W_isnt, ↓W_lenT, ↓W_lenN, ↓W_intI, ↓W_intB, ↓W_abs, ↓W_max2, ↓W_min2, ↓W_divmod, ↓W_tupleT, ↓W_tupleN, ↓W_listT, ↓W_eqI, ↓W_neI, ↓W_eqB, ↓W_neB, ↓W_ix0, ↓W_ix1, ↓W_ix2, ↓its_new, ↓its_tup, ↓lst_new, En.pick, List.filterMap_cons, List.filterMap_nil, tyN, tyM, isT, truD, En.isNon, startE, wipeE, List.map_cons, List.map_nil, List.length_cons, List.length_nil, List.cons_append, List.nil_append, List.replicate_succ, List.replicate_zero, List.getElem?_cons_succ, List.getElem?_cons_zero, List.set_cons_succ, List.set_cons_zero, Nat.reduceSub, Nat.reduceAdd, Nat.zero_add, Nat.reduceLeDiff, Nat.sub_self, Bool.not_true, Bool.not_false, Bool.true_and, Bool.and_true, Bool.false_and, Bool.and_false, Bool.or_true, Bool.true_or, Bool.false_or, Bool.or_false, Bool.false_eq_true, if_true, if_false, ite_true, ite_false, true_and, and_true, decide_true, decide_false, String.reduceBEq, beq_self_eq_true, bne_self_eq_false, Bool.or_self, Bool.and_self, reduceCtorEq, Option.some.injEq, Bool.decide_eq_true, decide_eq_true_eq]
      repeat (refine ⟨lmn (by decide), ?_⟩)
      exact ⟨rfl, s1.new.trans (s2.trans (s3.new.trans s4))⟩
end L_k07
namespace L_k07
open PySem L2 En
theorem W_forD {gd : Grd} {g : MG} {a : MS} {Qo : Out → Sto → Prop} (I : List D → En.Env → Sto → Prop)
    (step : ∀ x r ρ S, I (x :: r) ρ S → grdOk gd S = true ∧ W (g x ρ S) fun ρ1 S1 => W (a ρ1 S1) fun o S2 => match o with
      | .next ρ2 => I r ρ2 S2
      | .cont ρ2 => I r ρ2 S2
      | .brk ρ2 => Qo (.next ρ2) S2
      | .ret d => Qo (.ret d) S2)
    (fin : ∀ ρ S, I [] ρ S → grdOk gd S = true ∧ Qo (.next ρ) S) (xs : List D) (ρ : En.Env) (S : Sto) (h : I xs ρ S) : W (forL gd g a xs ρ S) Qo := by
  have := W_forI (c := id) I step fin xs ρ S h
  rwa [List.map_id] at this
theorem insU_len {x : Int} : ∀ {l : List Int}, (insU x l).length ≤ l.length + 1
  | [] => by simp [insU]
  | y :: r => by
    unfold insU
    split
    · simp
    · split
      · simp
      · have := insU_len (x := x) (l := r); simp; omega
theorem sortU_len : ∀ {l : List Int}, (sortU l).length ≤ l.length
  | [] => by simp [sortU]
  | x :: r => by
    have := sortU_len (l := r)
    have h2 := @insU_len x (sortU r)
    rw [sortU, List.length_cons]; omega
theorem ints_app {l : List Int} {i : Int} : ints? (l.map D.int ++ [.int i]) = some (l ++ [i]) := by
  have := ints_map (l ++ [i])
  rw [List.map_append] at this
  exact this
theorem rk1 : rowOk [1, 2, 3, 4, 6] = true := by decide +kernel
theorem rk2 : rowOk [1, 2, 3, 5] = true := by decide +kernel
theorem rk3 : rowOk [1] = true := by decide +kernel
theorem rk4 : rowOk [1, 2] = true := by decide +kernel
theorem q1 : needless [1, 2, 3, 4, 6] = [2, 3] := by decide +kernel
theorem q2 : lean [1, 2, 3, 4, 6] = [1, 2, 4, 6] := by decide +kernel
theorem q3 : needless [1, 2, 3, 5] = [] := by decide +kernel
theorem q4 : needless [1] = [] := by decide +kernel
theorem q5 : lean [1, 2] = [1, 2] := by decide +kernel
theorem right_spec {b : Nat} {S : Sto} {Q : D → Sto → Prop} (hw : Bowl b S) (k : ∀ S', SubB b S S' → Q (.bl true) S') : W (m__law_right [.loc b] S) Q := by
  unfold m__law_right
  generalize hE : sIf (mAndT (mTst (mBin eqD (mCall m__law_row_wrong (mCons (mVar 4) mNil)) (mC (.str "right")))) (mNotT (mTru (mCall m__law_row_right (mCons (mVar 4) mNil))))) (sRet (mC (.bl false))) sNext = E
  simp only [↓W_sortSet, ↓W_slT, ↓W_var, ↓W_C, ↓W_bin, ↓W_un, ↓W_chain, ↓W_tru, ↓W_tst, ↓W_notT, ↓W_andT, ↓W_orT, ↓W_andV, ↓W_orV, ↓W_notV, ↓W_if, ↓W_nil, ↓W_cons, ↓W_tup, ↓W_lst, ↓W_call, ↓W_callK, ↓W_noPart, ↓W_part, ↓W_sl, ↓W_meth, ↓W_asg, ↓W_name, ↓W_gnil, ↓W_gcons, ↓W_gseq, ↓W_gsub, ↓W_expr, ↓W_ret, ↓W_retN, ↓W_sif, ↓W_next, ↓W_brk, ↓W_cont, ↓W_sbad, ↓W_seq, ↓W_par2, ↓W_par3, ↓W_for, ↓W_lc, ↓W_yes, ↓W_iseq, ↓W_ienum, ↓W_rng1, ↓W_rng2, ↓W_while, ↓W_fun, ↓W_subD, ↓W_addI, ↓W_addS, ↓W_addT, ↓W_mulI, ↓W_fdiv, ↓W_mod, ↓W_neg, ↓W_ord, ↓W_isi, ↓W_is, ↓W_isnt, ↓W_lenT, ↓W_lenN, ↓W_intI, ↓W_intB, ↓W_abs, ↓W_max2, ↓W_min2, ↓W_divmod, ↓W_tupleT, ↓W_tupleN, ↓W_listT, ↓W_eqI, ↓W_neI, ↓W_eqB, ↓W_neB, ↓W_ix0, ↓W_ix1, ↓W_ix2, ↓its_new, ↓its_tup, ↓lst_new, En.pick, List.filterMap_cons, List.filterMap_nil, tyN, tyM, isT, truD, En.isNon, startE, wipeE, List.map_cons, List.map_nil, List.length_cons, List.length_nil, List.cons_append, List.nil_append, List.replicate_succ, List.replicate_zero, List.getElem?_cons_succ, List.getElem?_cons_zero, List.set_cons_succ, List.set_cons_zero, Nat.reduceSub, Nat.reduceAdd, Nat.zero_add, Nat.reduceLeDiff, Nat.sub_self, Bool.not_true, Bool.not_false, Bool.true_and, Bool.and_true, Bool.false_and, Bool.and_false, Bool.or_true, Bool.true_or, Bool.false_or, Bool.or_false, Bool.false_eq_true, if_true, if_false, ite_true, ite_false, true_and, and_true, decide_true, decide_false, String.reduceBEq, beq_self_eq_true, bne_self_eq_false, Bool.or_self, Bool.and_self, reduceCtorEq, Option.some.injEq, Bool.decide_eq_true, decide_eq_true_eq]
  refine ⟨by decide, ?_⟩
  rw [show ((5 : Int)).toNat = 5 from rfl, rng0]
  refine W_forI (c := fun i : Nat => D.int (i : Int)) (fun (r : List Nat) (ρ : En.Env) (S1 : Sto) => SubB b S S1 ∧ Bowl b S1 ∧ ∃ (x1 x2 x3 x4 x5 x6 : Option D), ρ = [some (.loc b), x1, x2, x3, x4, x5, x6]) ?_ ?_ (List.range 5) _ S ⟨SubB.refl, hw, _, _, _, _, _, _, rfl⟩
  · rintro x r ρ S1 ⟨s1, w1, x1, x2, x3, x4, x5, x6, rfl⟩
    refine ⟨rfl, ?_⟩
    try simp only [↓W_sortSet, ↓W_slT, ↓W_var, ↓W_C, ↓W_bin, ↓W_un, ↓W_chain, ↓W_tru, ↓W_tst, ↓W_notT, ↓W_andT, ↓W_orT, ↓W_andV, ↓W_orV, ↓W_notV, ↓W_if, ↓W_nil, ↓W_cons, ↓W_tup, ↓W_lst, ↓W_call, ↓W_callK, ↓W_noPart, ↓W_part, ↓W_sl, ↓W_meth, ↓W_asg, ↓W_name, ↓W_gnil, ↓W_gcons, ↓W_gseq, ↓W_gsub, ↓W_expr, ↓W_ret, ↓W_retN, ↓W_sif, ↓W_next, ↓W_brk, ↓W_cont, ↓W_sbad, ↓W_seq, ↓W_par2, ↓W_par3, ↓W_for, ↓W_lc, ↓W_yes, ↓W_iseq, ↓W_ienum, ↓W_rng1, ↓W_rng2, ↓W_while, ↓W_fun, ↓W_subD, ↓W_addI, ↓W_addS, ↓W_addT, ↓W_mulI, ↓W_fdiv, ↓W_mod, ↓W_neg, ↓W_ord, ↓W_isi, ↓W_is, ↓W_isnt, ↓W_lenT, ↓W_lenN, ↓W_intI, ↓W_intB, ↓W_abs, ↓W_max2, ↓W_min2, ↓W_divmod, ↓W_tupleT, ↓W_tupleN, ↓W_listT, ↓W_eqI, ↓W_neI, ↓W_eqB, ↓W_neB, ↓W_ix0, ↓W_ix1, ↓W_ix2, ↓its_new, ↓its_tup, ↓lst_new, En.pick, List.filterMap_cons, List.filterMap_nil, tyN, tyM, isT, truD, En.isNon, startE, wipeE, List.map_cons, List.map_nil, List.length_cons, List.length_nil, List.cons_append, List.nil_append, List.replicate_succ, List.replicate_zero, List.getElem?_cons_succ, List.getElem?_cons_zero, List.set_cons_succ, List.set_cons_zero, Nat.reduceSub, Nat.reduceAdd, Nat.zero_add, Nat.reduceLeDiff, Nat.sub_self, Bool.not_true, Bool.not_false, Bool.true_and, Bool.and_true, Bool.false_and, Bool.and_false, Bool.or_true, Bool.true_or, Bool.false_or, Bool.or_false, Bool.false_eq_true, if_true, if_false, ite_true, ite_false, true_and, and_true, decide_true, decide_false, String.reduceBEq, beq_self_eq_true, bne_self_eq_false, Bool.or_self, Bool.and_self, reduceCtorEq, Option.some.injEq, Bool.decide_eq_true, decide_eq_true_eq]
    refine ⟨by decide, ?_⟩
    refine of_tup w1 (by simp) (by simp) fun y S2 hy s2 w2 => ?_
    have : ∃ m : Nat, y = natD m ∧ m ≤ 29 := by
      simp only [List.mem_cons, List.not_mem_nil, or_false] at hy
      rcases hy with rfl | rfl | rfl | rfl
      · exact ⟨2, rfl, by omega⟩
      · exact ⟨5, rfl, by omega⟩
      · exact ⟨9, rfl, by omega⟩
      · exact ⟨14, rfl, by omega⟩
    obtain ⟨m, rfl, hm⟩ := this
    try simp only [↓W_sortSet, ↓W_slT, ↓W_var, ↓W_C, ↓W_bin, ↓W_un, ↓W_chain, ↓W_tru, ↓W_tst, ↓W_notT, ↓W_andT, ↓W_orT, ↓W_andV, ↓W_orV, ↓W_notV, ↓W_if, ↓W_nil, ↓W_cons, ↓W_tup, ↓W_lst, ↓W_call, ↓W_callK, ↓W_noPart, ↓W_part, ↓W_sl, ↓W_meth, ↓W_asg, ↓W_name, ↓W_gnil, ↓W_gcons, ↓W_gseq, ↓W_gsub, ↓W_expr, ↓W_ret, ↓W_retN, ↓W_sif, ↓W_next, ↓W_brk, ↓W_cont, ↓W_sbad, ↓W_seq, ↓W_par2, ↓W_par3, ↓W_for, ↓W_lc, ↓W_yes, ↓W_iseq, ↓W_ienum, ↓W_rng1, ↓W_rng2, ↓W_while, ↓W_fun, ↓W_subD, ↓W_addI, ↓W_addS, ↓W_addT, ↓W_mulI, ↓W_fdiv, ↓W_mod, ↓W_neg, ↓W_ord, ↓W_isi, ↓W_is, ↓W_isnt, ↓W_lenT, ↓W_lenN, ↓W_intI, ↓W_intB, ↓W_abs, ↓W_max2, ↓W_min2, ↓W_divmod, ↓W_tupleT, ↓W_tupleN, ↓W_listT, ↓W_eqI, ↓W_neI, ↓W_eqB, ↓W_neB, ↓W_ix0, ↓W_ix1, ↓W_ix2, ↓its_new, ↓its_tup, ↓lst_new, En.pick, List.filterMap_cons, List.filterMap_nil, tyN, tyM, isT, truD, En.isNon, startE, wipeE, List.map_cons, List.map_nil, List.length_cons, List.length_nil, List.cons_append, List.nil_append, List.replicate_succ, List.replicate_zero, List.getElem?_cons_succ, List.getElem?_cons_zero, List.set_cons_succ, List.set_cons_zero, Nat.reduceSub, Nat.reduceAdd, Nat.zero_add, Nat.reduceLeDiff, Nat.sub_self, Bool.not_true, Bool.not_false, Bool.true_and, Bool.and_true, Bool.false_and, Bool.and_false, Bool.or_true, Bool.true_or, Bool.false_or, Bool.or_false, Bool.false_eq_true, if_true, if_false, ite_true, ite_false, true_and, and_true, decide_true, decide_false, String.reduceBEq, beq_self_eq_true, bne_self_eq_false, Bool.or_self, Bool.and_self, reduceCtorEq, Option.some.injEq, Bool.decide_eq_true, decide_eq_true_eq]
    refine row_spec w2 hm fun l S3 hl1 hl30 s3 w3 => ?_
    try simp only [↓W_sortSet, ↓W_slT, ↓W_var, ↓W_C, ↓W_bin, ↓W_un, ↓W_chain, ↓W_tru, ↓W_tst, ↓W_notT, ↓W_andT, ↓W_orT, ↓W_andV, ↓W_orV, ↓W_notV, ↓W_if, ↓W_nil, ↓W_cons, ↓W_tup, ↓W_lst, ↓W_call, ↓W_callK, ↓W_noPart, ↓W_part, ↓W_sl, ↓W_meth, ↓W_asg, ↓W_name, ↓W_gnil, ↓W_gcons, ↓W_gseq, ↓W_gsub, ↓W_expr, ↓W_ret, ↓W_retN, ↓W_sif, ↓W_next, ↓W_brk, ↓W_cont, ↓W_sbad, ↓W_seq, ↓W_par2, ↓W_par3, ↓W_for, ↓W_lc, ↓W_yes, ↓W_iseq, ↓W_ienum, ↓W_rng1, ↓W_rng2, ↓W_while, ↓W_fun, ↓W_subD, ↓W_addI, ↓W_addS, ↓W_addT, ↓W_mulI, ↓W_fdiv, ↓W_mod, ↓W_neg, ↓W_ord, ↓W_isi, ↓W_is, ↓W_isnt, ↓W_lenT, ↓W_lenN, ↓W_intI, ↓W_intB, ↓W_abs, ↓W_max2, ↓W_min2, ↓W_divmod, ↓W_tupleT, ↓W_tupleN, ↓W_listT, ↓W_eqI, ↓W_neI, ↓W_eqB, ↓W_neB, ↓W_ix0, ↓W_ix1, ↓W_ix2, ↓its_new, ↓its_tup, ↓lst_new, En.pick, List.filterMap_cons, List.filterMap_nil, tyN, tyM, isT, truD, En.isNon, startE, wipeE, List.map_cons, List.map_nil, List.length_cons, List.length_nil, List.cons_append, List.nil_append, List.replicate_succ, List.replicate_zero, List.getElem?_cons_succ, List.getElem?_cons_zero, List.set_cons_succ, List.set_cons_zero, Nat.reduceSub, Nat.reduceAdd, Nat.zero_add, Nat.reduceLeDiff, Nat.sub_self, Bool.not_true, Bool.not_false, Bool.true_and, Bool.and_true, Bool.false_and, Bool.and_false, Bool.or_true, Bool.true_or, Bool.false_or, Bool.or_false, Bool.false_eq_true, if_true, if_false, ite_true, ite_false, true_and, and_true, decide_true, decide_false, String.reduceBEq, beq_self_eq_true, bne_self_eq_false, Bool.or_self, Bool.and_self, reduceCtorEq, Option.some.injEq, Bool.decide_eq_true, decide_eq_true_eq]
    refine of_tup (xs := l.map D.int) w3 (by rw [List.length_map]; omega) (by rw [List.length_map]; omega) fun y1 S4 hy1 s4 w4 => ?_
    obtain ⟨i1, _, rfl⟩ := List.mem_map.mp hy1
    try simp only [↓W_sortSet, ↓W_slT, ↓W_var, ↓W_C, ↓W_bin, ↓W_un, ↓W_chain, ↓W_tru, ↓W_tst, ↓W_notT, ↓W_andT, ↓W_orT, ↓W_andV, ↓W_orV, ↓W_notV, ↓W_if, ↓W_nil, ↓W_cons, ↓W_tup, ↓W_lst, ↓W_call, ↓W_callK, ↓W_noPart, ↓W_part, ↓W_sl, ↓W_meth, ↓W_asg, ↓W_name, ↓W_gnil, ↓W_gcons, ↓W_gseq, ↓W_gsub, ↓W_expr, ↓W_ret, ↓W_retN, ↓W_sif, ↓W_next, ↓W_brk, ↓W_cont, ↓W_sbad, ↓W_seq, ↓W_par2, ↓W_par3, ↓W_for, ↓W_lc, ↓W_yes, ↓W_iseq, ↓W_ienum, ↓W_rng1, ↓W_rng2, ↓W_while, ↓W_fun, ↓W_subD, ↓W_addI, ↓W_addS, ↓W_addT, ↓W_mulI, ↓W_fdiv, ↓W_mod, ↓W_neg, ↓W_ord, ↓W_isi, ↓W_is, ↓W_isnt, ↓W_lenT, ↓W_lenN, ↓W_intI, ↓W_intB, ↓W_abs, ↓W_max2, ↓W_min2, ↓W_divmod, ↓W_tupleT, ↓W_tupleN, ↓W_listT, ↓W_eqI, ↓W_neI, ↓W_eqB, ↓W_neB, ↓W_ix0, ↓W_ix1, ↓W_ix2, ↓its_new, ↓its_tup, ↓lst_new, En.pick, List.filterMap_cons, List.filterMap_nil, tyN, tyM, isT, truD, En.isNon, startE, wipeE, List.map_cons, List.map_nil, List.length_cons, List.length_nil, List.cons_append, List.nil_append, List.replicate_succ, List.replicate_zero, List.getElem?_cons_succ, List.getElem?_cons_zero, List.set_cons_succ, List.set_cons_zero, Nat.reduceSub, Nat.reduceAdd, Nat.zero_add, Nat.reduceLeDiff, Nat.sub_self, Bool.not_true, Bool.not_false, Bool.true_and, Bool.and_true, Bool.false_and, Bool.and_false, Bool.or_true, Bool.true_or, Bool.false_or, Bool.or_false, Bool.false_eq_true, if_true, if_false, ite_true, ite_false, true_and, and_true, decide_true, decide_false, String.reduceBEq, beq_self_eq_true, bne_self_eq_false, Bool.or_self, Bool.and_self, reduceCtorEq, Option.some.injEq, Bool.decide_eq_true, decide_eq_true_eq]
    refine of_tup (xs := l.map D.int) w4 (by rw [List.length_map]; omega) (by rw [List.length_map]; omega) fun y2 S5 hy2 s5 w5 => ?_
    obtain ⟨i2, _, rfl⟩ := List.mem_map.mp hy2
    simp only [tupI, ↓W_sortSet, ↓W_slT, ↓W_var, ↓W_C, ↓W_bin, ↓W_un, ↓W_chain, ↓W_tru, ↓W_tst, ↓W_notT, ↓W_andT, ↓W_orT, ↓W_andV, ↓W_orV, ↓W_notV, ↓W_if, ↓W_nil, ↓W_cons, ↓W_tup, ↓W_lst, ↓W_call, ↓W_callK, ↓W_noPart, ↓W_part, ↓W_sl, ↓W_meth, ↓W_asg, ↓W_name, ↓W_gnil, ↓W_gcons, ↓W_gseq, ↓W_gsub, ↓W_expr, ↓W_ret, ↓W_retN, ↓W_sif, ↓W_next, ↓W_brk, ↓W_cont, ↓W_sbad, ↓W_seq, ↓W_par2, ↓W_par3, ↓W_for, ↓W_lc, ↓W_yes, ↓W_iseq, ↓W_ienum, ↓W_rng1, ↓W_rng2, ↓W_while, ↓W_fun, ↓W_subD, ↓W_addI, ↓W_addS, ↓W_addT, ↓W_mulI, ↓W_fdiv, ↓W_mod, ↓W_neg, ↓W_ord, ↓W_isi, ↓W_is, ↓W_isnt, ↓W_lenT, ↓W_lenN, ↓W_intI, ↓W_intB, ↓W_abs, ↓W_max2, ↓W_min2, ↓W_divmod, ↓W_tupleT, ↓W_tupleN, ↓W_listT, ↓W_eqI, ↓W_neI, ↓W_eqB, ↓W_neB, ↓W_ix0, ↓W_ix1, ↓W_ix2, ↓its_new, ↓its_tup, ↓lst_new, En.pick, List.filterMap_cons, List.filterMap_nil, tyN, tyM, isT, truD, En.isNon, startE, wipeE, List.map_cons, List.map_nil, List.length_cons, List.length_nil, List.cons_append, List.nil_append, List.replicate_succ, List.replicate_zero, List.getElem?_cons_succ, List.getElem?_cons_zero, List.set_cons_succ, List.set_cons_zero, Nat.reduceSub, Nat.reduceAdd, Nat.zero_add, Nat.reduceLeDiff, Nat.sub_self, Bool.not_true, Bool.not_false, Bool.true_and, Bool.and_true, Bool.false_and, Bool.and_false, Bool.or_true, Bool.true_or, Bool.false_or, Bool.or_false, Bool.false_eq_true, if_true, if_false, ite_true, ite_false, true_and, and_true, decide_true, decide_false, String.reduceBEq, beq_self_eq_true, bne_self_eq_false, Bool.or_self, Bool.and_self, reduceCtorEq, Option.some.injEq, Bool.decide_eq_true, decide_eq_true_eq]
    refine ⟨by decide, le_lim (by rw [List.length_map]; omega), ?_⟩
    simp only [ints_app, ↓W_sortSet, ↓W_slT, ↓W_var, ↓W_C, ↓W_bin, ↓W_un, ↓W_chain, ↓W_tru, ↓W_tst, ↓W_notT, ↓W_andT, ↓W_orT, ↓W_andV, ↓W_orV, ↓W_notV, ↓W_if, ↓W_nil, ↓W_cons, ↓W_tup, ↓W_lst, ↓W_call, ↓W_callK, ↓W_noPart, ↓W_part, ↓W_sl, ↓W_meth, ↓W_asg, ↓W_name, ↓W_gnil, ↓W_gcons, ↓W_gseq, ↓W_gsub, ↓W_expr, ↓W_ret, ↓W_retN, ↓W_sif, ↓W_next, ↓W_brk, ↓W_cont, ↓W_sbad, ↓W_seq, ↓W_par2, ↓W_par3, ↓W_for, ↓W_lc, ↓W_yes, ↓W_iseq, ↓W_ienum, ↓W_rng1, ↓W_rng2, ↓W_while, ↓W_fun, ↓W_subD, ↓W_addI, ↓W_addS, ↓W_addT, ↓W_mulI, ↓W_fdiv, ↓W_mod, ↓W_neg, ↓W_ord, ↓W_isi, ↓W_is, ↓W_isnt, ↓W_lenT, ↓W_lenN, ↓W_intI, ↓W_intB, ↓W_abs, ↓W_max2, ↓W_min2, ↓W_divmod, ↓W_tupleT, ↓W_tupleN, ↓W_listT, ↓W_eqI, ↓W_neI, ↓W_eqB, ↓W_neB, ↓W_ix0, ↓W_ix1, ↓W_ix2, ↓its_new, ↓its_tup, ↓lst_new, En.pick, List.filterMap_cons, List.filterMap_nil, tyN, tyM, isT, truD, En.isNon, startE, wipeE, List.map_cons, List.map_nil, List.length_cons, List.length_nil, List.cons_append, List.nil_append, List.replicate_succ, List.replicate_zero, List.getElem?_cons_succ, List.getElem?_cons_zero, List.set_cons_succ, List.set_cons_zero, Nat.reduceSub, Nat.reduceAdd, Nat.zero_add, Nat.reduceLeDiff, Nat.sub_self, Bool.not_true, Bool.not_false, Bool.true_and, Bool.and_true, Bool.false_and, Bool.and_false, Bool.or_true, Bool.true_or, Bool.false_or, Bool.or_false, Bool.false_eq_true, if_true, if_false, ite_true, ite_false, true_and, and_true, decide_true, decide_false, String.reduceBEq, beq_self_eq_true, bne_self_eq_false, Bool.or_self, Bool.and_self, reduceCtorEq, Option.some.injEq, Bool.decide_eq_true, decide_eq_true_eq]
    refine ⟨by rw [List.length_append]; simp; omega, ?_⟩
    have slen := @sortU_len (l ++ [i1 + i2])
    simp only [List.length_append, List.length_cons, List.length_nil] at slen
    refine (law_leaned_pu (by omega) hl1).use fun S6 s6 => ?_
    try simp only [↓W_sortSet, ↓W_slT, ↓W_var, ↓W_C, ↓W_bin, ↓W_un, ↓W_chain, ↓W_tru, ↓W_tst, ↓W_notT, ↓W_andT, ↓W_orT, ↓W_andV, ↓W_orV, ↓W_notV, ↓W_if, ↓W_nil, ↓W_cons, ↓W_tup, ↓W_lst, ↓W_call, ↓W_callK, ↓W_noPart, ↓W_part, ↓W_sl, ↓W_meth, ↓W_asg, ↓W_name, ↓W_gnil, ↓W_gcons, ↓W_gseq, ↓W_gsub, ↓W_expr, ↓W_ret, ↓W_retN, ↓W_sif, ↓W_next, ↓W_brk, ↓W_cont, ↓W_sbad, ↓W_seq, ↓W_par2, ↓W_par3, ↓W_for, ↓W_lc, ↓W_yes, ↓W_iseq, ↓W_ienum, ↓W_rng1, ↓W_rng2, ↓W_while, ↓W_fun, ↓W_subD, ↓W_addI, ↓W_addS, ↓W_addT, ↓W_mulI, ↓W_fdiv, ↓W_mod, ↓W_neg, ↓W_ord, ↓W_isi, ↓W_is, ↓W_isnt, ↓W_lenT, ↓W_lenN, ↓W_intI, ↓W_intB, ↓W_abs, ↓W_max2, ↓W_min2, ↓W_divmod, ↓W_tupleT, ↓W_tupleN, ↓W_listT, ↓W_eqI, ↓W_neI, ↓W_eqB, ↓W_neB, ↓W_ix0, ↓W_ix1, ↓W_ix2, ↓its_new, ↓its_tup, ↓lst_new, En.pick, List.filterMap_cons, List.filterMap_nil, tyN, tyM, isT, truD, En.isNon, startE, wipeE, List.map_cons, List.map_nil, List.length_cons, List.length_nil, List.cons_append, List.nil_append, List.replicate_succ, List.replicate_zero, List.getElem?_cons_succ, List.getElem?_cons_zero, List.set_cons_succ, List.set_cons_zero, Nat.reduceSub, Nat.reduceAdd, Nat.zero_add, Nat.reduceLeDiff, Nat.sub_self, Bool.not_true, Bool.not_false, Bool.true_and, Bool.and_true, Bool.false_and, Bool.and_false, Bool.or_true, Bool.true_or, Bool.false_or, Bool.or_false, Bool.false_eq_true, if_true, if_false, ite_true, ite_false, true_and, and_true, decide_true, decide_false, String.reduceBEq, beq_self_eq_true, bne_self_eq_false, Bool.or_self, Bool.and_self, reduceCtorEq, Option.some.injEq, Bool.decide_eq_true, decide_eq_true_eq]
    refine row_spec (most := 29) ((w5.new).sub s6) (by omega) fun l2 S7 hl2 hl230 s7 w7 => ?_
    simp only [tupI, ↓W_sortSet, ↓W_slT, ↓W_var, ↓W_C, ↓W_bin, ↓W_un, ↓W_chain, ↓W_tru, ↓W_tst, ↓W_notT, ↓W_andT, ↓W_orT, ↓W_andV, ↓W_orV, ↓W_notV, ↓W_if, ↓W_nil, ↓W_cons, ↓W_tup, ↓W_lst, ↓W_call, ↓W_callK, ↓W_noPart, ↓W_part, ↓W_sl, ↓W_meth, ↓W_asg, ↓W_name, ↓W_gnil, ↓W_gcons, ↓W_gseq, ↓W_gsub, ↓W_expr, ↓W_ret, ↓W_retN, ↓W_sif, ↓W_next, ↓W_brk, ↓W_cont, ↓W_sbad, ↓W_seq, ↓W_par2, ↓W_par3, ↓W_for, ↓W_lc, ↓W_yes, ↓W_iseq, ↓W_ienum, ↓W_rng1, ↓W_rng2, ↓W_while, ↓W_fun, ↓W_subD, ↓W_addI, ↓W_addS, ↓W_addT, ↓W_mulI, ↓W_fdiv, ↓W_mod, ↓W_neg, ↓W_ord, ↓W_isi, ↓W_is, ↓W_isnt, ↓W_lenT, ↓W_lenN, ↓W_intI, ↓W_intB, ↓W_abs, ↓W_max2, ↓W_min2, ↓W_divmod, ↓W_tupleT, ↓W_tupleN, ↓W_listT, ↓W_eqI, ↓W_neI, ↓W_eqB, ↓W_neB, ↓W_ix0, ↓W_ix1, ↓W_ix2, ↓its_new, ↓its_tup, ↓lst_new, En.pick, List.filterMap_cons, List.filterMap_nil, tyN, tyM, isT, truD, En.isNon, startE, wipeE, List.map_cons, List.map_nil, List.length_cons, List.length_nil, List.cons_append, List.nil_append, List.replicate_succ, List.replicate_zero, List.getElem?_cons_succ, List.getElem?_cons_zero, List.set_cons_succ, List.set_cons_zero, Nat.reduceSub, Nat.reduceAdd, Nat.zero_add, Nat.reduceLeDiff, Nat.sub_self, Bool.not_true, Bool.not_false, Bool.true_and, Bool.and_true, Bool.false_and, Bool.and_false, Bool.or_true, Bool.true_or, Bool.false_or, Bool.or_false, Bool.false_eq_true, if_true, if_false, ite_true, ite_false, true_and, and_true, decide_true, decide_false, String.reduceBEq, beq_self_eq_true, bne_self_eq_false, Bool.or_self, Bool.and_self, reduceCtorEq, Option.some.injEq, Bool.decide_eq_true, decide_eq_true_eq]
    obtain ⟨l3, e3, hl3⟩ := @cut20 l2
    rw [e3]
    refine ⟨by decide, ?_⟩
    refine W_forD (fun (r : List D) (ρ : En.Env) (S8 : Sto) => Sub S7 S8 ∧ (∀ z ∈ r, ∃ l : List Int, z = tupI l ∧ l.length ≤ 900) ∧ ∃ (x1 x2 x3 x4 x5 x6 : Option D), ρ = [some (.loc b), x1, x2, x3, x4, x5, x6]) ?_ ?_ _ _ _ ⟨Sub.refl, ?_, _, _, _, _, _, _, rfl⟩
    · rintro z r ρ S8 ⟨s8, hz, x1, x2, x3, x4, x5, x6, rfl⟩
      refine ⟨rfl, ?_⟩
      obtain ⟨l', rfl, hl'⟩ := hz z (List.mem_cons_self ..)
      try simp only [↓W_sortSet, ↓W_slT, ↓W_var, ↓W_C, ↓W_bin, ↓W_un, ↓W_chain, ↓W_tru, ↓W_tst, ↓W_notT, ↓W_andT, ↓W_orT, ↓W_andV, ↓W_orV, ↓W_notV, ↓W_if, ↓W_nil, ↓W_cons, ↓W_tup, ↓W_lst, ↓W_call, ↓W_callK, ↓W_noPart, ↓W_part, ↓W_sl, ↓W_meth, ↓W_asg, ↓W_name, ↓W_gnil, ↓W_gcons, ↓W_gseq, ↓W_gsub, ↓W_expr, ↓W_ret, ↓W_retN, ↓W_sif, ↓W_next, ↓W_brk, ↓W_cont, ↓W_sbad, ↓W_seq, ↓W_par2, ↓W_par3, ↓W_for, ↓W_lc, ↓W_yes, ↓W_iseq, ↓W_ienum, ↓W_rng1, ↓W_rng2, ↓W_while, ↓W_fun, ↓W_subD, ↓W_addI, ↓W_addS, ↓W_addT, ↓W_mulI, ↓W_fdiv, ↓W_mod, ↓W_neg, ↓W_ord, ↓W_isi, ↓W_is, ↓W_isnt, ↓W_lenT, ↓W_lenN, ↓W_intI, ↓W_intB, ↓W_abs, ↓W_max2, ↓W_min2, ↓W_divmod, ↓W_tupleT, ↓W_tupleN, ↓W_listT, ↓W_eqI, ↓W_neI, ↓W_eqB, ↓W_neB, ↓W_ix0, ↓W_ix1, ↓W_ix2, ↓its_new, ↓its_tup, ↓lst_new, En.pick, List.filterMap_cons, List.filterMap_nil, tyN, tyM, isT, truD, En.isNon, startE, wipeE, List.map_cons, List.map_nil, List.length_cons, List.length_nil, List.cons_append, List.nil_append, List.replicate_succ, List.replicate_zero, List.getElem?_cons_succ, List.getElem?_cons_zero, List.set_cons_succ, List.set_cons_zero, Nat.reduceSub, Nat.reduceAdd, Nat.zero_add, Nat.reduceLeDiff, Nat.sub_self, Bool.not_true, Bool.not_false, Bool.true_and, Bool.and_true, Bool.false_and, Bool.and_false, Bool.or_true, Bool.true_or, Bool.false_or, Bool.or_false, Bool.false_eq_true, if_true, if_false, ite_true, ite_false, true_and, and_true, decide_true, decide_false, String.reduceBEq, beq_self_eq_true, bne_self_eq_false, Bool.or_self, Bool.and_self, reduceCtorEq, Option.some.injEq, Bool.decide_eq_true, decide_eq_true_eq]
      subst hE
      refine each_spec hl' fun S9 s9 => ?_
      exact ⟨s8.trans s9, fun z hz' => hz z (List.mem_cons_of_mem _ hz'), _, _, _, _, _, _, rfl⟩
    · rintro ρ S8 ⟨s8, hz, x1, x2, x3, x4, x5, x6, rfl⟩
      refine ⟨rfl, ?_⟩
      exact ⟨s1.trans (s2.trans (s3.trans (s4.trans (s5.trans (Sub.app.b.trans (s6.b.trans (s7.trans s8.b))))))), w7.sub s8, _, _, _, _, _, _, rfl⟩
    · intro z hz
      simp only [List.mem_cons, List.not_mem_nil, or_false] at hz
      rcases hz with rfl | rfl | rfl | rfl
      · exact ⟨l, rfl, by omega⟩
      · exact ⟨sortU (l ++ [i1 + i2]), rfl, by omega⟩
      · exact ⟨lean l, rfl, Nat.le_trans (lean_len 900 l) (by omega)⟩
      · exact ⟨l3, rfl, by omega⟩
  · rintro ρ S1 ⟨s1, w1, x1, x2, x3, x4, x5, x6, rfl⟩
    refine ⟨rfl, ?_⟩
    try simp only [↓W_sortSet, ↓W_slT, ↓W_var, ↓W_C, ↓W_bin, ↓W_un, ↓W_chain, ↓W_tru, ↓W_tst, ↓W_notT, ↓W_andT, ↓W_orT, ↓W_andV, ↓W_orV, ↓W_notV, ↓W_if, ↓W_nil, ↓W_cons, ↓W_tup, ↓W_lst, ↓W_call, ↓W_callK, ↓W_noPart, ↓W_part, ↓W_sl, ↓W_meth, ↓W_asg, ↓W_name, ↓W_gnil, ↓W_gcons, ↓W_gseq, ↓W_gsub, ↓W_expr, ↓W_ret, ↓W_retN, ↓W_sif, ↓W_next, ↓W_brk, ↓W_cont, ↓W_sbad, ↓W_seq, ↓W_par2, ↓W_par3, ↓W_for, ↓W_lc, ↓W_yes, ↓W_iseq, ↓W_ienum, ↓W_rng1, ↓W_rng2, ↓W_while, ↓W_fun, ↓W_subD, ↓W_addI, ↓W_addS, ↓W_addT, ↓W_mulI, ↓W_fdiv, ↓W_mod, ↓W_neg, ↓W_ord, ↓W_isi, ↓W_is, ↓W_isnt, ↓W_lenT, ↓W_lenN, ↓W_intI, ↓W_intB, ↓W_abs, ↓W_max2, ↓W_min2, ↓W_divmod, ↓W_tupleT, ↓W_tupleN, ↓W_listT, ↓W_eqI, ↓W_neI, ↓W_eqB, ↓W_neB, ↓W_ix0, ↓W_ix1, ↓W_ix2, ↓its_new, ↓its_tup, ↓lst_new, En.pick, List.filterMap_cons, List.filterMap_nil, tyN, tyM, isT, truD, En.isNon, startE, wipeE, List.map_cons, List.map_nil, List.length_cons, List.length_nil, List.cons_append, List.nil_append, List.replicate_succ, List.replicate_zero, List.getElem?_cons_succ, List.getElem?_cons_zero, List.set_cons_succ, List.set_cons_zero, Nat.reduceSub, Nat.reduceAdd, Nat.zero_add, Nat.reduceLeDiff, Nat.sub_self, Bool.not_true, Bool.not_false, Bool.true_and, Bool.and_true, Bool.false_and, Bool.and_false, Bool.or_true, Bool.true_or, Bool.false_or, Bool.or_false, Bool.false_eq_true, if_true, if_false, ite_true, ite_false, true_and, and_true, decide_true, decide_false, String.reduceBEq, beq_self_eq_true, bne_self_eq_false, Bool.or_self, Bool.and_self, reduceCtorEq, Option.some.injEq, Bool.decide_eq_true, decide_eq_true_eq]
    refine known_pu.use fun S2 s2 => ?_
    try simp only [↓W_sortSet, ↓W_slT, ↓W_var, ↓W_C, ↓W_bin, ↓W_un, ↓W_chain, ↓W_tru, ↓W_tst, ↓W_notT, ↓W_andT, ↓W_orT, ↓W_andV, ↓W_orV, ↓W_notV, ↓W_if, ↓W_nil, ↓W_cons, ↓W_tup, ↓W_lst, ↓W_call, ↓W_callK, ↓W_noPart, ↓W_part, ↓W_sl, ↓W_meth, ↓W_asg, ↓W_name, ↓W_gnil, ↓W_gcons, ↓W_gseq, ↓W_gsub, ↓W_expr, ↓W_ret, ↓W_retN, ↓W_sif, ↓W_next, ↓W_brk, ↓W_cont, ↓W_sbad, ↓W_seq, ↓W_par2, ↓W_par3, ↓W_for, ↓W_lc, ↓W_yes, ↓W_iseq, ↓W_ienum, ↓W_rng1, ↓W_rng2, ↓W_while, ↓W_fun, ↓W_subD, ↓W_addI, ↓W_addS, ↓W_addT, ↓W_mulI, ↓W_fdiv, ↓W_mod, ↓W_neg, ↓W_ord, ↓W_isi, ↓W_is, ↓W_isnt, ↓W_lenT, ↓W_lenN, ↓W_intI, ↓W_intB, ↓W_abs, ↓W_max2, ↓W_min2, ↓W_divmod, ↓W_tupleT, ↓W_tupleN, ↓W_listT, ↓W_eqI, ↓W_neI, ↓W_eqB, ↓W_neB, ↓W_ix0, ↓W_ix1, ↓W_ix2, ↓its_new, ↓its_tup, ↓lst_new, En.pick, List.filterMap_cons, List.filterMap_nil, tyN, tyM, isT, truD, En.isNon, startE, wipeE, List.map_cons, List.map_nil, List.length_cons, List.length_nil, List.cons_append, List.nil_append, List.replicate_succ, List.replicate_zero, List.getElem?_cons_succ, List.getElem?_cons_zero, List.set_cons_succ, List.set_cons_zero, Nat.reduceSub, Nat.reduceAdd, Nat.zero_add, Nat.reduceLeDiff, Nat.sub_self, Bool.not_true, Bool.not_false, Bool.true_and, Bool.and_true, Bool.false_and, Bool.and_false, Bool.or_true, Bool.true_or, Bool.false_or, Bool.or_false, Bool.false_eq_true, if_true, if_false, ite_true, ite_false, true_and, and_true, decide_true, decide_false, String.reduceBEq, beq_self_eq_true, bne_self_eq_false, Bool.or_self, Bool.and_self, reduceCtorEq, Option.some.injEq, Bool.decide_eq_true, decide_eq_true_eq]
    refine W_forI (c := tupI) (fun (r : List (List Int)) (ρ : En.Env) (S3 : Sto) => Sub S2 S3 ∧ (∀ l ∈ r, l ∈ knownL) ∧ ∃ (x1 x2 x3 x4 x5 x6 : Option D), ρ = [some (.loc b), x1, x2, x3, x4, x5, x6]) ?_ ?_ knownL _ S2 ⟨Sub.refl, fun l h => h, _, _, _, _, _, _, rfl⟩
    · rintro l r ρ S3 ⟨s3, hm, x1, x2, x3, x4, x5, x6, rfl⟩
      refine ⟨rfl, ?_⟩
      have hk := known_ok l (hm l (List.mem_cons_self ..))
      try simp only [↓W_sortSet, ↓W_slT, ↓W_var, ↓W_C, ↓W_bin, ↓W_un, ↓W_chain, ↓W_tru, ↓W_tst, ↓W_notT, ↓W_andT, ↓W_orT, ↓W_andV, ↓W_orV, ↓W_notV, ↓W_if, ↓W_nil, ↓W_cons, ↓W_tup, ↓W_lst, ↓W_call, ↓W_callK, ↓W_noPart, ↓W_part, ↓W_sl, ↓W_meth, ↓W_asg, ↓W_name, ↓W_gnil, ↓W_gcons, ↓W_gseq, ↓W_gsub, ↓W_expr, ↓W_ret, ↓W_retN, ↓W_sif, ↓W_next, ↓W_brk, ↓W_cont, ↓W_sbad, ↓W_seq, ↓W_par2, ↓W_par3, ↓W_for, ↓W_lc, ↓W_yes, ↓W_iseq, ↓W_ienum, ↓W_rng1, ↓W_rng2, ↓W_while, ↓W_fun, ↓W_subD, ↓W_addI, ↓W_addS, ↓W_addT, ↓W_mulI, ↓W_fdiv, ↓W_mod, ↓W_neg, ↓W_ord, ↓W_isi, ↓W_is, ↓W_isnt, ↓W_lenT, ↓W_lenN, ↓W_intI, ↓W_intB, ↓W_abs, ↓W_max2, ↓W_min2, ↓W_divmod, ↓W_tupleT, ↓W_tupleN, ↓W_listT, ↓W_eqI, ↓W_neI, ↓W_eqB, ↓W_neB, ↓W_ix0, ↓W_ix1, ↓W_ix2, ↓its_new, ↓its_tup, ↓lst_new, En.pick, List.filterMap_cons, List.filterMap_nil, tyN, tyM, isT, truD, En.isNon, startE, wipeE, List.map_cons, List.map_nil, List.length_cons, List.length_nil, List.cons_append, List.nil_append, List.replicate_succ, List.replicate_zero, List.getElem?_cons_succ, List.getElem?_cons_zero, List.set_cons_succ, List.set_cons_zero, Nat.reduceSub, Nat.reduceAdd, Nat.zero_add, Nat.reduceLeDiff, Nat.sub_self, Bool.not_true, Bool.not_false, Bool.true_and, Bool.and_true, Bool.false_and, Bool.and_false, Bool.or_true, Bool.true_or, Bool.false_or, Bool.or_false, Bool.false_eq_true, if_true, if_false, ite_true, ite_false, true_and, and_true, decide_true, decide_false, String.reduceBEq, beq_self_eq_true, bne_self_eq_false, Bool.or_self, Bool.and_self, reduceCtorEq, Option.some.injEq, Bool.decide_eq_true, decide_eq_true_eq]
      refine (row_right_pu hk.2 hk.1).use fun S4 s4 => ?_
      try simp only [↓W_sortSet, ↓W_slT, ↓W_var, ↓W_C, ↓W_bin, ↓W_un, ↓W_chain, ↓W_tru, ↓W_tst, ↓W_notT, ↓W_andT, ↓W_orT, ↓W_andV, ↓W_orV, ↓W_notV, ↓W_if, ↓W_nil, ↓W_cons, ↓W_tup, ↓W_lst, ↓W_call, ↓W_callK, ↓W_noPart, ↓W_part, ↓W_sl, ↓W_meth, ↓W_asg, ↓W_name, ↓W_gnil, ↓W_gcons, ↓W_gseq, ↓W_gsub, ↓W_expr, ↓W_ret, ↓W_retN, ↓W_sif, ↓W_next, ↓W_brk, ↓W_cont, ↓W_sbad, ↓W_seq, ↓W_par2, ↓W_par3, ↓W_for, ↓W_lc, ↓W_yes, ↓W_iseq, ↓W_ienum, ↓W_rng1, ↓W_rng2, ↓W_while, ↓W_fun, ↓W_subD, ↓W_addI, ↓W_addS, ↓W_addT, ↓W_mulI, ↓W_fdiv, ↓W_mod, ↓W_neg, ↓W_ord, ↓W_isi, ↓W_is, ↓W_isnt, ↓W_lenT, ↓W_lenN, ↓W_intI, ↓W_intB, ↓W_abs, ↓W_max2, ↓W_min2, ↓W_divmod, ↓W_tupleT, ↓W_tupleN, ↓W_listT, ↓W_eqI, ↓W_neI, ↓W_eqB, ↓W_neB, ↓W_ix0, ↓W_ix1, ↓W_ix2, ↓its_new, ↓its_tup, ↓lst_new, En.pick, List.filterMap_cons, List.filterMap_nil, tyN, tyM, isT, truD, En.isNon, startE, wipeE, List.map_cons, List.map_nil, List.length_cons, List.length_nil, List.cons_append, List.nil_append, List.replicate_succ, List.replicate_zero, List.getElem?_cons_succ, List.getElem?_cons_zero, List.set_cons_succ, List.set_cons_zero, Nat.reduceSub, Nat.reduceAdd, Nat.zero_add, Nat.reduceLeDiff, Nat.sub_self, Bool.not_true, Bool.not_false, Bool.true_and, Bool.and_true, Bool.false_and, Bool.and_false, Bool.or_true, Bool.true_or, Bool.false_or, Bool.or_false, Bool.false_eq_true, if_true, if_false, ite_true, ite_false, true_and, and_true, decide_true, decide_false, String.reduceBEq, beq_self_eq_true, bne_self_eq_false, Bool.or_self, Bool.and_self, reduceCtorEq, Option.some.injEq, Bool.decide_eq_true, decide_eq_true_eq]
      exact ⟨s3.trans s4, fun l h => hm l (List.mem_cons_of_mem _ h), _, _, _, _, _, _, rfl⟩
    · rintro ρ S3 ⟨s3, hm, x1, x2, x3, x4, x5, x6, rfl⟩
      refine ⟨rfl, ?_⟩
      try simp only [↓W_sortSet, ↓W_slT, ↓W_var, ↓W_C, ↓W_bin, ↓W_un, ↓W_chain, ↓W_tru, ↓W_tst, ↓W_notT, ↓W_andT, ↓W_orT, ↓W_andV, ↓W_orV, ↓W_notV, ↓W_if, ↓W_nil, ↓W_cons, ↓W_tup, ↓W_lst, ↓W_call, ↓W_callK, ↓W_noPart, ↓W_part, ↓W_sl, ↓W_meth, ↓W_asg, ↓W_name, ↓W_gnil, ↓W_gcons, ↓W_gseq, ↓W_gsub, ↓W_expr, ↓W_ret, ↓W_retN, ↓W_sif, ↓W_next, ↓W_brk, ↓W_cont, ↓W_sbad, ↓W_seq, ↓W_par2, ↓W_par3, ↓W_for, ↓W_lc, ↓W_yes, ↓W_iseq, ↓W_ienum, ↓W_rng1, ↓W_rng2, ↓W_while, ↓W_fun, ↓W_subD, ↓W_addI, ↓W_addS, ↓W_addT, ↓W_mulI, ↓W_fdiv, ↓W_mod, ↓W_neg, ↓W_ord, ↓W_isi, ↓W_is, ↓W_isnt, ↓W_lenT, ↓W_lenN, ↓W_intI, ↓W_intB, ↓W_abs, ↓W_max2, ↓W_min2, ↓W_divmod, ↓W_tupleT, ↓W_tupleN, ↓W_listT, ↓W_eqI, ↓W_neI, ↓W_eqB, ↓W_neB, ↓W_ix0, ↓W_ix1, ↓W_ix2, ↓its_new, ↓its_tup, ↓lst_new, En.pick, List.filterMap_cons, List.filterMap_nil, tyN, tyM, isT, truD, En.isNon, startE, wipeE, List.map_cons, List.map_nil, List.length_cons, List.length_nil, List.cons_append, List.nil_append, List.replicate_succ, List.replicate_zero, List.getElem?_cons_succ, List.getElem?_cons_zero, List.set_cons_succ, List.set_cons_zero, Nat.reduceSub, Nat.reduceAdd, Nat.zero_add, Nat.reduceLeDiff, Nat.sub_self, Bool.not_true, Bool.not_false, Bool.true_and, Bool.and_true, Bool.false_and, Bool.and_false, Bool.or_true, Bool.true_or, Bool.false_or, Bool.or_false, Bool.false_eq_true, if_true, if_false, ite_true, ite_false, true_and, and_true, decide_true, decide_false, String.reduceBEq, beq_self_eq_true, bne_self_eq_false, Bool.or_self, Bool.and_self, reduceCtorEq, Option.some.injEq, Bool.decide_eq_true, decide_eq_true_eq]
      refine ⟨by decide, ?_⟩
      refine (needless_pu (l := [1, 2, 3, 4, 6]) (by decide) rk1).use fun S4 s4 => ?_
      try simp only [↓W_sortSet, ↓W_slT, ↓W_var, ↓W_C, ↓W_bin, ↓W_un, ↓W_chain, ↓W_tru, ↓W_tst, ↓W_notT, ↓W_andT, ↓W_orT, ↓W_andV, ↓W_orV, ↓W_notV, ↓W_if, ↓W_nil, ↓W_cons, ↓W_tup, ↓W_lst, ↓W_call, ↓W_callK, ↓W_noPart, ↓W_part, ↓W_sl, ↓W_meth, ↓W_asg, ↓W_name, ↓W_gnil, ↓W_gcons, ↓W_gseq, ↓W_gsub, ↓W_expr, ↓W_ret, ↓W_retN, ↓W_sif, ↓W_next, ↓W_brk, ↓W_cont, ↓W_sbad, ↓W_seq, ↓W_par2, ↓W_par3, ↓W_for, ↓W_lc, ↓W_yes, ↓W_iseq, ↓W_ienum, ↓W_rng1, ↓W_rng2, ↓W_while, ↓W_fun, ↓W_subD, ↓W_addI, ↓W_addS, ↓W_addT, ↓W_mulI, ↓W_fdiv, ↓W_mod, ↓W_neg, ↓W_ord, ↓W_isi, ↓W_is, ↓W_isnt, ↓W_lenT, ↓W_lenN, ↓W_intI, ↓W_intB, ↓W_abs, ↓W_max2, ↓W_min2, ↓W_divmod, ↓W_tupleT, ↓W_tupleN, ↓W_listT, ↓W_eqI, ↓W_neI, ↓W_eqB, ↓W_neB, ↓W_ix0, ↓W_ix1, ↓W_ix2, ↓its_new, ↓its_tup, ↓lst_new, En.pick, List.filterMap_cons, List.filterMap_nil, tyN, tyM, isT, truD, En.isNon, startE, wipeE, List.map_cons, List.map_nil, List.length_cons, List.length_nil, List.cons_append, List.nil_append, List.replicate_succ, List.replicate_zero, List.getElem?_cons_succ, List.getElem?_cons_zero, List.set_cons_succ, List.set_cons_zero, Nat.reduceSub, Nat.reduceAdd, Nat.zero_add, Nat.reduceLeDiff, Nat.sub_self, Bool.not_true, Bool.not_false, Bool.true_and, Bool.and_true, Bool.false_and, Bool.and_false, Bool.or_true, Bool.true_or, Bool.false_or, Bool.or_false, Bool.false_eq_true, if_true, if_false, ite_true, ite_false, true_and, and_true, decide_true, decide_false, String.reduceBEq, beq_self_eq_true, bne_self_eq_false, Bool.or_self, Bool.and_self, reduceCtorEq, Option.some.injEq, Bool.decide_eq_true, decide_eq_true_eq]
      refine (leaned_pu (l := [1, 2, 3, 4, 6]) (by decide) rk1).use fun S5 s5 => ?_
      try simp only [↓W_sortSet, ↓W_slT, ↓W_var, ↓W_C, ↓W_bin, ↓W_un, ↓W_chain, ↓W_tru, ↓W_tst, ↓W_notT, ↓W_andT, ↓W_orT, ↓W_andV, ↓W_orV, ↓W_notV, ↓W_if, ↓W_nil, ↓W_cons, ↓W_tup, ↓W_lst, ↓W_call, ↓W_callK, ↓W_noPart, ↓W_part, ↓W_sl, ↓W_meth, ↓W_asg, ↓W_name, ↓W_gnil, ↓W_gcons, ↓W_gseq, ↓W_gsub, ↓W_expr, ↓W_ret, ↓W_retN, ↓W_sif, ↓W_next, ↓W_brk, ↓W_cont, ↓W_sbad, ↓W_seq, ↓W_par2, ↓W_par3, ↓W_for, ↓W_lc, ↓W_yes, ↓W_iseq, ↓W_ienum, ↓W_rng1, ↓W_rng2, ↓W_while, ↓W_fun, ↓W_subD, ↓W_addI, ↓W_addS, ↓W_addT, ↓W_mulI, ↓W_fdiv, ↓W_mod, ↓W_neg, ↓W_ord, ↓W_isi, ↓W_is, ↓W_isnt, ↓W_lenT, ↓W_lenN, ↓W_intI, ↓W_intB, ↓W_abs, ↓W_max2, ↓W_min2, ↓W_divmod, ↓W_tupleT, ↓W_tupleN, ↓W_listT, ↓W_eqI, ↓W_neI, ↓W_eqB, ↓W_neB, ↓W_ix0, ↓W_ix1, ↓W_ix2, ↓its_new, ↓its_tup, ↓lst_new, En.pick, List.filterMap_cons, List.filterMap_nil, tyN, tyM, isT, truD, En.isNon, startE, wipeE, List.map_cons, List.map_nil, List.length_cons, List.length_nil, List.cons_append, List.nil_append, List.replicate_succ, List.replicate_zero, List.getElem?_cons_succ, List.getElem?_cons_zero, List.set_cons_succ, List.set_cons_zero, Nat.reduceSub, Nat.reduceAdd, Nat.zero_add, Nat.reduceLeDiff, Nat.sub_self, Bool.not_true, Bool.not_false, Bool.true_and, Bool.and_true, Bool.false_and, Bool.and_false, Bool.or_true, Bool.true_or, Bool.false_or, Bool.or_false, Bool.false_eq_true, if_true, if_false, ite_true, ite_false, true_and, and_true, decide_true, decide_false, String.reduceBEq, beq_self_eq_true, bne_self_eq_false, Bool.or_self, Bool.and_self, reduceCtorEq, Option.some.injEq, Bool.decide_eq_true, decide_eq_true_eq]
      refine (is_lean_pu (l := [1, 2, 3, 4, 6]) (by decide) rk1).use fun S6 s6 => ?_
      try simp only [↓W_sortSet, ↓W_slT, ↓W_var, ↓W_C, ↓W_bin, ↓W_un, ↓W_chain, ↓W_tru, ↓W_tst, ↓W_notT, ↓W_andT, ↓W_orT, ↓W_andV, ↓W_orV, ↓W_notV, ↓W_if, ↓W_nil, ↓W_cons, ↓W_tup, ↓W_lst, ↓W_call, ↓W_callK, ↓W_noPart, ↓W_part, ↓W_sl, ↓W_meth, ↓W_asg, ↓W_name, ↓W_gnil, ↓W_gcons, ↓W_gseq, ↓W_gsub, ↓W_expr, ↓W_ret, ↓W_retN, ↓W_sif, ↓W_next, ↓W_brk, ↓W_cont, ↓W_sbad, ↓W_seq, ↓W_par2, ↓W_par3, ↓W_for, ↓W_lc, ↓W_yes, ↓W_iseq, ↓W_ienum, ↓W_rng1, ↓W_rng2, ↓W_while, ↓W_fun, ↓W_subD, ↓W_addI, ↓W_addS, ↓W_addT, ↓W_mulI, ↓W_fdiv, ↓W_mod, ↓W_neg, ↓W_ord, ↓W_isi, ↓W_is, ↓W_isnt, ↓W_lenT, ↓W_lenN, ↓W_intI, ↓W_intB, ↓W_abs, ↓W_max2, ↓W_min2, ↓W_divmod, ↓W_tupleT, ↓W_tupleN, ↓W_listT, ↓W_eqI, ↓W_neI, ↓W_eqB, ↓W_neB, ↓W_ix0, ↓W_ix1, ↓W_ix2, ↓its_new, ↓its_tup, ↓lst_new, En.pick, List.filterMap_cons, List.filterMap_nil, tyN, tyM, isT, truD, En.isNon, startE, wipeE, List.map_cons, List.map_nil, List.length_cons, List.length_nil, List.cons_append, List.nil_append, List.replicate_succ, List.replicate_zero, List.getElem?_cons_succ, List.getElem?_cons_zero, List.set_cons_succ, List.set_cons_zero, Nat.reduceSub, Nat.reduceAdd, Nat.zero_add, Nat.reduceLeDiff, Nat.sub_self, Bool.not_true, Bool.not_false, Bool.true_and, Bool.and_true, Bool.false_and, Bool.and_false, Bool.or_true, Bool.true_or, Bool.false_or, Bool.or_false, Bool.false_eq_true, if_true, if_false, ite_true, ite_false, true_and, and_true, decide_true, decide_false, String.reduceBEq, beq_self_eq_true, bne_self_eq_false, Bool.or_self, Bool.and_self, reduceCtorEq, Option.some.injEq, Bool.decide_eq_true, decide_eq_true_eq]
      refine ⟨by decide, ?_⟩
      refine (is_lean_pu (l := [1, 2, 3, 5]) (by decide) rk2).use fun S7 s7 => ?_
      try simp only [↓W_sortSet, ↓W_slT, ↓W_var, ↓W_C, ↓W_bin, ↓W_un, ↓W_chain, ↓W_tru, ↓W_tst, ↓W_notT, ↓W_andT, ↓W_orT, ↓W_andV, ↓W_orV, ↓W_notV, ↓W_if, ↓W_nil, ↓W_cons, ↓W_tup, ↓W_lst, ↓W_call, ↓W_callK, ↓W_noPart, ↓W_part, ↓W_sl, ↓W_meth, ↓W_asg, ↓W_name, ↓W_gnil, ↓W_gcons, ↓W_gseq, ↓W_gsub, ↓W_expr, ↓W_ret, ↓W_retN, ↓W_sif, ↓W_next, ↓W_brk, ↓W_cont, ↓W_sbad, ↓W_seq, ↓W_par2, ↓W_par3, ↓W_for, ↓W_lc, ↓W_yes, ↓W_iseq, ↓W_ienum, ↓W_rng1, ↓W_rng2, ↓W_while, ↓W_fun, ↓W_subD, ↓W_addI, ↓W_addS, ↓W_addT, ↓W_mulI, ↓W_fdiv, ↓W_mod, ↓W_neg, ↓W_ord, ↓W_isi, ↓W_is, ↓W_isnt, ↓W_lenT, ↓W_lenN, ↓W_intI, ↓W_intB, ↓W_abs, ↓W_max2, ↓W_min2, ↓W_divmod, ↓W_tupleT, ↓W_tupleN, ↓W_listT, ↓W_eqI, ↓W_neI, ↓W_eqB, ↓W_neB, ↓W_ix0, ↓W_ix1, ↓W_ix2, ↓its_new, ↓its_tup, ↓lst_new, En.pick, List.filterMap_cons, List.filterMap_nil, tyN, tyM, isT, truD, En.isNon, startE, wipeE, List.map_cons, List.map_nil, List.length_cons, List.length_nil, List.cons_append, List.nil_append, List.replicate_succ, List.replicate_zero, List.getElem?_cons_succ, List.getElem?_cons_zero, List.set_cons_succ, List.set_cons_zero, Nat.reduceSub, Nat.reduceAdd, Nat.zero_add, Nat.reduceLeDiff, Nat.sub_self, Bool.not_true, Bool.not_false, Bool.true_and, Bool.and_true, Bool.false_and, Bool.and_false, Bool.or_true, Bool.true_or, Bool.false_or, Bool.or_false, Bool.false_eq_true, if_true, if_false, ite_true, ite_false, true_and, and_true, decide_true, decide_false, String.reduceBEq, beq_self_eq_true, bne_self_eq_false, Bool.or_self, Bool.and_self, reduceCtorEq, Option.some.injEq, Bool.decide_eq_true, decide_eq_true_eq]
      refine ⟨by decide, ?_⟩
      refine (needless_pu (l := [1, 2, 3, 5]) (by decide) rk2).use fun S8 s8 => ?_
      try simp only [↓W_sortSet, ↓W_slT, ↓W_var, ↓W_C, ↓W_bin, ↓W_un, ↓W_chain, ↓W_tru, ↓W_tst, ↓W_notT, ↓W_andT, ↓W_orT, ↓W_andV, ↓W_orV, ↓W_notV, ↓W_if, ↓W_nil, ↓W_cons, ↓W_tup, ↓W_lst, ↓W_call, ↓W_callK, ↓W_noPart, ↓W_part, ↓W_sl, ↓W_meth, ↓W_asg, ↓W_name, ↓W_gnil, ↓W_gcons, ↓W_gseq, ↓W_gsub, ↓W_expr, ↓W_ret, ↓W_retN, ↓W_sif, ↓W_next, ↓W_brk, ↓W_cont, ↓W_sbad, ↓W_seq, ↓W_par2, ↓W_par3, ↓W_for, ↓W_lc, ↓W_yes, ↓W_iseq, ↓W_ienum, ↓W_rng1, ↓W_rng2, ↓W_while, ↓W_fun, ↓W_subD, ↓W_addI, ↓W_addS, ↓W_addT, ↓W_mulI, ↓W_fdiv, ↓W_mod, ↓W_neg, ↓W_ord, ↓W_isi, ↓W_is, ↓W_isnt, ↓W_lenT, ↓W_lenN, ↓W_intI, ↓W_intB, ↓W_abs, ↓W_max2, ↓W_min2, ↓W_divmod, ↓W_tupleT, ↓W_tupleN, ↓W_listT, ↓W_eqI, ↓W_neI, ↓W_eqB, ↓W_neB, ↓W_ix0, ↓W_ix1, ↓W_ix2, ↓its_new, ↓its_tup, ↓lst_new, En.pick, List.filterMap_cons, List.filterMap_nil, tyN, tyM, isT, truD, En.isNon, startE, wipeE, List.map_cons, List.map_nil, List.length_cons, List.length_nil, List.cons_append, List.nil_append, List.replicate_succ, List.replicate_zero, List.getElem?_cons_succ, List.getElem?_cons_zero, List.set_cons_succ, List.set_cons_zero, Nat.reduceSub, Nat.reduceAdd, Nat.zero_add, Nat.reduceLeDiff, Nat.sub_self, Bool.not_true, Bool.not_false, Bool.true_and, Bool.and_true, Bool.false_and, Bool.and_false, Bool.or_true, Bool.true_or, Bool.false_or, Bool.or_false, Bool.false_eq_true, if_true, if_false, ite_true, ite_false, true_and, and_true, decide_true, decide_false, String.reduceBEq, beq_self_eq_true, bne_self_eq_false, Bool.or_self, Bool.and_self, reduceCtorEq, Option.some.injEq, Bool.decide_eq_true, decide_eq_true_eq]
      refine ⟨by decide, ?_⟩
      refine (is_lean_pu (l := [1]) (by decide) rk3).use fun S9 s9 => ?_
      try simp only [↓W_sortSet, ↓W_slT, ↓W_var, ↓W_C, ↓W_bin, ↓W_un, ↓W_chain, ↓W_tru, ↓W_tst, ↓W_notT, ↓W_andT, ↓W_orT, ↓W_andV, ↓W_orV, ↓W_notV, ↓W_if, ↓W_nil, ↓W_cons, ↓W_tup, ↓W_lst, ↓W_call, ↓W_callK, ↓W_noPart, ↓W_part, ↓W_sl, ↓W_meth, ↓W_asg, ↓W_name, ↓W_gnil, ↓W_gcons, ↓W_gseq, ↓W_gsub, ↓W_expr, ↓W_ret, ↓W_retN, ↓W_sif, ↓W_next, ↓W_brk, ↓W_cont, ↓W_sbad, ↓W_seq, ↓W_par2, ↓W_par3, ↓W_for, ↓W_lc, ↓W_yes, ↓W_iseq, ↓W_ienum, ↓W_rng1, ↓W_rng2, ↓W_while, ↓W_fun, ↓W_subD, ↓W_addI, ↓W_addS, ↓W_addT, ↓W_mulI, ↓W_fdiv, ↓W_mod, ↓W_neg, ↓W_ord, ↓W_isi, ↓W_is, ↓W_isnt, ↓W_lenT, ↓W_lenN, ↓W_intI, ↓W_intB, ↓W_abs, ↓W_max2, ↓W_min2, ↓W_divmod, ↓W_tupleT, ↓W_tupleN, ↓W_listT, ↓W_eqI, ↓W_neI, ↓W_eqB, ↓W_neB, ↓W_ix0, ↓W_ix1, ↓W_ix2, ↓its_new, ↓its_tup, ↓lst_new, En.pick, List.filterMap_cons, List.filterMap_nil, tyN, tyM, isT, truD, En.isNon, startE, wipeE, List.map_cons, List.map_nil, List.length_cons, List.length_nil, List.cons_append, List.nil_append, List.replicate_succ, List.replicate_zero, List.getElem?_cons_succ, List.getElem?_cons_zero, List.set_cons_succ, List.set_cons_zero, Nat.reduceSub, Nat.reduceAdd, Nat.zero_add, Nat.reduceLeDiff, Nat.sub_self, Bool.not_true, Bool.not_false, Bool.true_and, Bool.and_true, Bool.false_and, Bool.and_false, Bool.or_true, Bool.true_or, Bool.false_or, Bool.or_false, Bool.false_eq_true, if_true, if_false, ite_true, ite_false, true_and, and_true, decide_true, decide_false, String.reduceBEq, beq_self_eq_true, bne_self_eq_false, Bool.or_self, Bool.and_self, reduceCtorEq, Option.some.injEq, Bool.decide_eq_true, decide_eq_true_eq]
      refine ⟨by decide, ?_⟩
      refine (needless_pu (l := [1]) (by decide) rk3).use fun S10 s10 => ?_
      try simp only [↓W_sortSet, ↓W_slT, ↓W_var, ↓W_C, ↓W_bin, ↓W_un, ↓W_chain, ↓W_tru, ↓W_tst, ↓W_notT, ↓W_andT, ↓W_orT, ↓W_andV, ↓W_orV, ↓W_notV, ↓W_if, ↓W_nil, ↓W_cons, ↓W_tup, ↓W_lst, ↓W_call, ↓W_callK, ↓W_noPart, ↓W_part, ↓W_sl, ↓W_meth, ↓W_asg, ↓W_name, ↓W_gnil, ↓W_gcons, ↓W_gseq, ↓W_gsub, ↓W_expr, ↓W_ret, ↓W_retN, ↓W_sif, ↓W_next, ↓W_brk, ↓W_cont, ↓W_sbad, ↓W_seq, ↓W_par2, ↓W_par3, ↓W_for, ↓W_lc, ↓W_yes, ↓W_iseq, ↓W_ienum, ↓W_rng1, ↓W_rng2, ↓W_while, ↓W_fun, ↓W_subD, ↓W_addI, ↓W_addS, ↓W_addT, ↓W_mulI, ↓W_fdiv, ↓W_mod, ↓W_neg, ↓W_ord, ↓W_isi, ↓W_is, ↓W_isnt, ↓W_lenT, ↓W_lenN, ↓W_intI, ↓W_intB, ↓W_abs, ↓W_max2, ↓W_min2, ↓W_divmod, ↓W_tupleT, ↓W_tupleN, ↓W_listT, ↓W_eqI, ↓W_neI, ↓W_eqB, ↓W_neB, ↓W_ix0, ↓W_ix1, ↓W_ix2, ↓its_new, ↓its_tup, ↓lst_new, En.pick, List.filterMap_cons, List.filterMap_nil, tyN, tyM, isT, truD, En.isNon, startE, wipeE, List.map_cons, List.map_nil, List.length_cons, List.length_nil, List.cons_append, List.nil_append, List.replicate_succ, List.replicate_zero, List.getElem?_cons_succ, List.getElem?_cons_zero, List.set_cons_succ, List.set_cons_zero, Nat.reduceSub, Nat.reduceAdd, Nat.zero_add, Nat.reduceLeDiff, Nat.sub_self, Bool.not_true, Bool.not_false, Bool.true_and, Bool.and_true, Bool.false_and, Bool.and_false, Bool.or_true, Bool.true_or, Bool.false_or, Bool.or_false, Bool.false_eq_true, if_true, if_false, ite_true, ite_false, true_and, and_true, decide_true, decide_false, String.reduceBEq, beq_self_eq_true, bne_self_eq_false, Bool.or_self, Bool.and_self, reduceCtorEq, Option.some.injEq, Bool.decide_eq_true, decide_eq_true_eq]
      refine ⟨by decide, ?_⟩
      refine (leaned_pu (l := [1, 2]) (by decide) rk4).use fun S11 s11 => ?_
      rw [q1, q2, q3, q4, q5]
      try simp only [↓W_sortSet, ↓W_slT, ↓W_var, ↓W_C, ↓W_bin, ↓W_un, ↓W_chain, ↓W_tru, ↓W_tst, ↓W_notT, ↓W_andT, ↓W_orT, ↓W_andV, ↓W_orV, ↓W_notV, ↓W_if, ↓W_nil, ↓W_cons, ↓W_tup, ↓W_lst, ↓W_call, ↓W_callK, ↓W_noPart, ↓W_part, ↓W_sl, ↓W_meth, ↓W_asg, ↓W_name, ↓W_gnil, ↓W_gcons, ↓W_gseq, ↓W_gsub, ↓W_expr, ↓W_ret, ↓W_retN, ↓W_sif, ↓W_next, ↓W_brk, ↓W_cont, ↓W_sbad, ↓W_seq, ↓W_par2, ↓W_par3, ↓W_for, ↓W_lc, ↓W_yes, ↓W_iseq, ↓W_ienum, ↓W_rng1, ↓W_rng2, ↓W_while, ↓W_fun, ↓W_subD, ↓W_addI, ↓W_addS, ↓W_addT, ↓W_mulI, ↓W_fdiv, ↓W_mod, ↓W_neg, ↓W_ord, ↓W_isi, ↓W_is, ↓W_isnt, ↓W_lenT, ↓W_lenN, ↓W_intI, ↓W_intB, ↓W_abs, ↓W_max2, ↓W_min2, ↓W_divmod, ↓W_tupleT, ↓W_tupleN, ↓W_listT, ↓W_eqI, ↓W_neI, ↓W_eqB, ↓W_neB, ↓W_ix0, ↓W_ix1, ↓W_ix2, ↓its_new, ↓its_tup, ↓lst_new, En.pick, List.filterMap_cons, List.filterMap_nil, tyN, tyM, isT, truD, En.isNon, startE, wipeE, List.map_cons, List.map_nil, List.length_cons, List.length_nil, List.cons_append, List.nil_append, List.replicate_succ, List.replicate_zero, List.getElem?_cons_succ, List.getElem?_cons_zero, List.set_cons_succ, List.set_cons_zero, Nat.reduceSub, Nat.reduceAdd, Nat.zero_add, Nat.reduceLeDiff, Nat.sub_self, Bool.not_true, Bool.not_false, Bool.true_and, Bool.and_true, Bool.false_and, Bool.and_false, Bool.or_true, Bool.true_or, Bool.false_or, Bool.or_false, Bool.false_eq_true, if_true, if_false, ite_true, ite_false, true_and, and_true, decide_true, decide_false, String.reduceBEq, beq_self_eq_true, bne_self_eq_false, Bool.or_self, Bool.and_self, reduceCtorEq, Option.some.injEq, Bool.decide_eq_true, decide_eq_true_eq]
      repeat (refine ⟨lmn (by decide), ?_⟩)
      refine same_use (n := 8) (by simp [okD, tupI]) (by decide) fun S12 s12 => ?_
      exact k S12 (s1.trans (s2.trans (s3.trans (s4.trans (s5.trans (s6.trans (s7.trans (s8.trans (s9.trans (s10.trans (s11.trans s12)))))))))).b)
end L_k07
namespace L_k07
open PySem L2 En
theorem W_slR {ds : List D} {lo hi : Option Int} {S : Sto} {Q : D → Sto → Prop} : W (slD (.rol ds) lo hi S) Q = Q (.loc S.length) (S ++ [.lst (cutD ds lo hi)]) := W_ok
theorem cut_map {α : Type} {f : α → D} {xs : List α} {lo hi : Option Int} : ∃ ys : List α, cutD (xs.map f) lo hi = ys.map f := ⟨_, by unfold cutD; rw [← List.map_drop, ← List.map_take]⟩
theorem W_p1016 {S : Sto} {Q : D → Sto → Prop} : W (powD (.int 10) (.int 16) S) Q = Q (.int 10000000000000000) S := by
  rw [W_pow]; simp only [show (10 : Int) ^ (16 : Int).toNat = 10000000000000000 from by decide]; simp
theorem W_p1060 {S : Sto} {Q : D → Sto → Prop} : W (powD (.int 10) (.int 60) S) Q = Q (.int (10 ^ 60)) S := by
  rw [W_pow]; simp only [show (60 : Int).toNat = 60 from rfl]; simp
theorem bowl_spec {ns : List Int} {lap : Nat} {S : Sto} {Q : D → Sto → Prop} (hlap : lap ≤ 3) (k : ∀ b S', Sub S S' → S.length ≤ b → Bowl b S' → Q (.loc b) S') : W (m__law_bowl [.rol (ns.map D.int), .int (lap : Int)] S) Q := by
  unfold m__law_bowl
  generalize hT : (sSeq (sFor (iSeq (mSl (mVar 0) mNoPart (mPart (mC (.int 16))))) (gmName 4) (sAsg (mBin modD (mCall intD (mCons (mBin addD (mBin addD (mBin mulD (mVar 3) (mC (.int 54673))) (mBin mulD (mBin modD (mCall intD (mCons (mVar 4) mNil)) (mC (.int 2147483353))) (mC (.int 3)))) (mC (.int 71))) mNil)) (mC (.int 2147483423))) (gmName 3)))
    (sSeq (sAsg (mIf (mOrT (mTst (mBin ltD (mVar 2) (mC (.int 0)))) (mTst (mBin geD (mVar 2) (mBin powD (mC (.int 10)) (mC (.int 16)))))) (mBin modD (mCall absD (mCons (mVar 2) mNil)) (mBin powD (mC (.int 10)) (mC (.int 60)))) (mC (.int 0))) (gmName 5))
    (sRet (mLst (mCons (mVar 5) (mCons (mBin modD (mCall intD (mCons (mBin addD (mBin addD (mBin mulD (mVar 3) (mC (.int 31))) (mBin modD (mCall intD (mCons (mVar 2) mNil)) (mC (.int 2147483353)))) (mC (.int 401))) mNil)) (mC (.int 2147483423))) mNil)))))) = T
  have main : ∀ (n : Int), W (T [some (.rol (ns.map D.int)), some (.int (lap : Int)), some (.int n), some (.int (970027 + 3301 * (lap : Int))), none, none] S) (fun o S1 => match o with | .ret d => Q d S1 | .next _ => Q .non S1 | _ => False) := by
    intro n
    subst hT
    try simp only [↓W_sortSet, ↓W_slT, ↓W_var, ↓W_C, ↓W_bin, ↓W_un, ↓W_chain, ↓W_tru, ↓W_tst, ↓W_notT, ↓W_andT, ↓W_orT, ↓W_andV, ↓W_orV, ↓W_notV, ↓W_if, ↓W_nil, ↓W_cons, ↓W_tup, ↓W_lst, ↓W_call, ↓W_callK, ↓W_noPart, ↓W_part, ↓W_sl, ↓W_meth, ↓W_asg, ↓W_name, ↓W_gnil, ↓W_gcons, ↓W_gseq, ↓W_gsub, ↓W_expr, ↓W_ret, ↓W_retN, ↓W_sif, ↓W_next, ↓W_brk, ↓W_cont, ↓W_sbad, ↓W_seq, ↓W_par2, ↓W_par3, ↓W_for, ↓W_lc, ↓W_yes, ↓W_iseq, ↓W_ienum, ↓W_rng1, ↓W_rng2, ↓W_while, ↓W_fun, ↓W_subD, ↓W_addI, ↓W_addS, ↓W_addT, ↓W_mulI, ↓W_fdiv, ↓W_mod, ↓W_neg, ↓W_ord, ↓W_isi, ↓W_is, ↓W_isnt, ↓W_lenT, ↓W_lenN, ↓W_intI, ↓W_intB, ↓W_abs, ↓W_max2, ↓W_min2, ↓W_divmod, ↓W_tupleT, ↓W_tupleN, ↓W_listT, ↓W_eqI, ↓W_neI, ↓W_eqB, ↓W_neB, ↓W_ix0, ↓W_ix1, ↓W_ix2, ↓its_new, ↓its_tup, ↓lst_new, En.pick, List.filterMap_cons, List.filterMap_nil, tyN, tyM, isT, truD, En.isNon, startE, wipeE, List.map_cons, List.map_nil, List.length_cons, List.length_nil, List.cons_append, List.nil_append, List.replicate_succ, List.replicate_zero, List.getElem?_cons_succ, List.getElem?_cons_zero, List.set_cons_succ, List.set_cons_zero, Nat.reduceSub, Nat.reduceAdd, Nat.zero_add, Nat.reduceLeDiff, Nat.sub_self, Bool.not_true, Bool.not_false, Bool.true_and, Bool.and_true, Bool.false_and, Bool.and_false, Bool.or_true, Bool.true_or, Bool.false_or, Bool.or_false, Bool.false_eq_true, if_true, if_false, ite_true, ite_false, true_and, and_true, decide_true, decide_false, String.reduceBEq, beq_self_eq_true, bne_self_eq_false, Bool.or_self, Bool.and_self, reduceCtorEq, Option.some.injEq, Bool.decide_eq_true, decide_eq_true_eq]
    rw [W_slR]
    obtain ⟨ms, em⟩ := cut_map (f := D.int) (xs := ns) (lo := none) (hi := some 16)
    rw [em]
    try simp only [↓W_sortSet, ↓W_slT, ↓W_var, ↓W_C, ↓W_bin, ↓W_un, ↓W_chain, ↓W_tru, ↓W_tst, ↓W_notT, ↓W_andT, ↓W_orT, ↓W_andV, ↓W_orV, ↓W_notV, ↓W_if, ↓W_nil, ↓W_cons, ↓W_tup, ↓W_lst, ↓W_call, ↓W_callK, ↓W_noPart, ↓W_part, ↓W_sl, ↓W_meth, ↓W_asg, ↓W_name, ↓W_gnil, ↓W_gcons, ↓W_gseq, ↓W_gsub, ↓W_expr, ↓W_ret, ↓W_retN, ↓W_sif, ↓W_next, ↓W_brk, ↓W_cont, ↓W_sbad, ↓W_seq, ↓W_par2, ↓W_par3, ↓W_for, ↓W_lc, ↓W_yes, ↓W_iseq, ↓W_ienum, ↓W_rng1, ↓W_rng2, ↓W_while, ↓W_fun, ↓W_subD, ↓W_addI, ↓W_addS, ↓W_addT, ↓W_mulI, ↓W_fdiv, ↓W_mod, ↓W_neg, ↓W_ord, ↓W_isi, ↓W_is, ↓W_isnt, ↓W_lenT, ↓W_lenN, ↓W_intI, ↓W_intB, ↓W_abs, ↓W_max2, ↓W_min2, ↓W_divmod, ↓W_tupleT, ↓W_tupleN, ↓W_listT, ↓W_eqI, ↓W_neI, ↓W_eqB, ↓W_neB, ↓W_ix0, ↓W_ix1, ↓W_ix2, ↓its_new, ↓its_tup, ↓lst_new, En.pick, List.filterMap_cons, List.filterMap_nil, tyN, tyM, isT, truD, En.isNon, startE, wipeE, List.map_cons, List.map_nil, List.length_cons, List.length_nil, List.cons_append, List.nil_append, List.replicate_succ, List.replicate_zero, List.getElem?_cons_succ, List.getElem?_cons_zero, List.set_cons_succ, List.set_cons_zero, Nat.reduceSub, Nat.reduceAdd, Nat.zero_add, Nat.reduceLeDiff, Nat.sub_self, Bool.not_true, Bool.not_false, Bool.true_and, Bool.and_true, Bool.false_and, Bool.and_false, Bool.or_true, Bool.true_or, Bool.false_or, Bool.or_false, Bool.false_eq_true, if_true, if_false, ite_true, ite_false, true_and, and_true, decide_true, decide_false, String.reduceBEq, beq_self_eq_true, bne_self_eq_false, Bool.or_self, Bool.and_self, reduceCtorEq, Option.some.injEq, Bool.decide_eq_true, decide_eq_true_eq]
    refine W_forI (c := D.int) (fun (r : List Int) (ρ : En.Env) (S1 : Sto) => S1 = S ++ [C.lst (ms.map D.int)] ∧ ∃ (st : Int) (x4 : Option D), ρ = [some (.rol (ns.map D.int)), some (.int (lap : Int)), some (.int n), some (.int st), x4, none] ∧ 0 ≤ st ∧ st < 2147483423) ?_ ?_ ms _ _ ⟨rfl, _, _, rfl, by omega, by omega⟩
    · rintro x r ρ S1 ⟨rfl, st, x3, rfl, h1, h2⟩
      refine ⟨grd_of its_new, ?_⟩
      try simp only [↓W_sortSet, ↓W_slT, ↓W_var, ↓W_C, ↓W_bin, ↓W_un, ↓W_chain, ↓W_tru, ↓W_tst, ↓W_notT, ↓W_andT, ↓W_orT, ↓W_andV, ↓W_orV, ↓W_notV, ↓W_if, ↓W_nil, ↓W_cons, ↓W_tup, ↓W_lst, ↓W_call, ↓W_callK, ↓W_noPart, ↓W_part, ↓W_sl, ↓W_meth, ↓W_asg, ↓W_name, ↓W_gnil, ↓W_gcons, ↓W_gseq, ↓W_gsub, ↓W_expr, ↓W_ret, ↓W_retN, ↓W_sif, ↓W_next, ↓W_brk, ↓W_cont, ↓W_sbad, ↓W_seq, ↓W_par2, ↓W_par3, ↓W_for, ↓W_lc, ↓W_yes, ↓W_iseq, ↓W_ienum, ↓W_rng1, ↓W_rng2, ↓W_while, ↓W_fun, ↓W_subD, ↓W_addI, ↓W_addS, ↓W_addT, ↓W_mulI, ↓W_fdiv, ↓W_mod, ↓W_neg, ↓W_ord, ↓W_isi, ↓W_is, ↓W_isnt, ↓W_lenT, ↓W_lenN, ↓W_intI, ↓W_intB, ↓W_abs, ↓W_max2, ↓W_min2, ↓W_divmod, ↓W_tupleT, ↓W_tupleN, ↓W_listT, ↓W_eqI, ↓W_neI, ↓W_eqB, ↓W_neB, ↓W_ix0, ↓W_ix1, ↓W_ix2, ↓its_new, ↓its_tup, ↓lst_new, En.pick, List.filterMap_cons, List.filterMap_nil, tyN, tyM, isT, truD, En.isNon, startE, wipeE, List.map_cons, List.map_nil, List.length_cons, List.length_nil, List.cons_append, List.nil_append, List.replicate_succ, List.replicate_zero, List.getElem?_cons_succ, List.getElem?_cons_zero, List.set_cons_succ, List.set_cons_zero, Nat.reduceSub, Nat.reduceAdd, Nat.zero_add, Nat.reduceLeDiff, Nat.sub_self, Bool.not_true, Bool.not_false, Bool.true_and, Bool.and_true, Bool.false_and, Bool.and_false, Bool.or_true, Bool.true_or, Bool.false_or, Bool.or_false, Bool.false_eq_true, if_true, if_false, ite_true, ite_false, true_and, and_true, decide_true, decide_false, String.reduceBEq, beq_self_eq_true, bne_self_eq_false, Bool.or_self, Bool.and_self, reduceCtorEq, Option.some.injEq, Bool.decide_eq_true, decide_eq_true_eq]
      have hx := Int.emod_nonneg x (show (2147483353 : Int) ≠ 0 by omega)
      have hx2 := Int.emod_lt_of_pos x (show (0 : Int) < 2147483353 by omega)
      refine ⟨mul_okI (by omega) (by omega), by omega, mul_okI (by omega) (by omega), by omega, _, _, rfl, Int.emod_nonneg _ (by omega), Int.emod_lt_of_pos _ (by omega)⟩
    · rintro ρ S1 ⟨rfl, st, x3, rfl, h1, h2⟩
      refine ⟨grd_of its_new, ?_⟩
      simp only [W_p1016, W_p1060, ↓W_sortSet, ↓W_slT, ↓W_var, ↓W_C, ↓W_bin, ↓W_un, ↓W_chain, ↓W_tru, ↓W_tst, ↓W_notT, ↓W_andT, ↓W_orT, ↓W_andV, ↓W_orV, ↓W_notV, ↓W_if, ↓W_nil, ↓W_cons, ↓W_tup, ↓W_lst, ↓W_call, ↓W_callK, ↓W_noPart, ↓W_part, ↓W_sl, ↓W_meth, ↓W_asg, ↓W_name, ↓W_gnil, ↓W_gcons, ↓W_gseq, ↓W_gsub, ↓W_expr, ↓W_ret, ↓W_retN, ↓W_sif, ↓W_next, ↓W_brk, ↓W_cont, ↓W_sbad, ↓W_seq, ↓W_par2, ↓W_par3, ↓W_for, ↓W_lc, ↓W_yes, ↓W_iseq, ↓W_ienum, ↓W_rng1, ↓W_rng2, ↓W_while, ↓W_fun, ↓W_subD, ↓W_addI, ↓W_addS, ↓W_addT, ↓W_mulI, ↓W_fdiv, ↓W_mod, ↓W_neg, ↓W_ord, ↓W_isi, ↓W_is, ↓W_isnt, ↓W_lenT, ↓W_lenN, ↓W_intI, ↓W_intB, ↓W_abs, ↓W_max2, ↓W_min2, ↓W_divmod, ↓W_tupleT, ↓W_tupleN, ↓W_listT, ↓W_eqI, ↓W_neI, ↓W_eqB, ↓W_neB, ↓W_ix0, ↓W_ix1, ↓W_ix2, ↓its_new, ↓its_tup, ↓lst_new, En.pick, List.filterMap_cons, List.filterMap_nil, tyN, tyM, isT, truD, En.isNon, startE, wipeE, List.map_cons, List.map_nil, List.length_cons, List.length_nil, List.cons_append, List.nil_append, List.replicate_succ, List.replicate_zero, List.getElem?_cons_succ, List.getElem?_cons_zero, List.set_cons_succ, List.set_cons_zero, Nat.reduceSub, Nat.reduceAdd, Nat.zero_add, Nat.reduceLeDiff, Nat.sub_self, Bool.not_true, Bool.not_false, Bool.true_and, Bool.and_true, Bool.false_and, Bool.and_false, Bool.or_true, Bool.true_or, Bool.false_or, Bool.or_false, Bool.false_eq_true, if_true, if_false, ite_true, ite_false, true_and, and_true, decide_true, decide_false, String.reduceBEq, beq_self_eq_true, bne_self_eq_false, Bool.or_self, Bool.and_self, reduceCtorEq, Option.some.injEq, Bool.decide_eq_true, decide_eq_true_eq]
      have hx := Int.emod_nonneg n (show (2147483353 : Int) ≠ 0 by omega)
      have hx2 := Int.emod_lt_of_pos n (show (0 : Int) < 2147483353 by omega)
      have hs := Int.emod_nonneg (st * 31 + n % 2147483353 + 401) (show (2147483423 : Int) ≠ 0 by omega)
      have hs2 := Int.emod_lt_of_pos (st * 31 + n % 2147483353 + 401) (show (0 : Int) < 2147483423 by omega)
      have ha := Int.emod_nonneg (if n < 0 then -n else n) (show (10 ^ 60 : Int) ≠ 0 by decide)
      have ha2 := Int.emod_lt_of_pos (if n < 0 then -n else n) (show (0 : Int) < 10 ^ 60 by decide)
      have fin : ∀ far : Int, 0 ≤ far → far ≤ 10 ^ 60 → (st.natAbs.log2 + (31 : Int).natAbs.log2 < 1000000) ∧ 0 < (2147483353 : Int) ∧ 0 < (2147483423 : Int) ∧ 2 ≤ lim ∧ Q (.loc (S ++ [C.lst (ms.map D.int)]).length) (S ++ [C.lst (ms.map D.int)] ++ [C.lst [.int far, .int ((st * 31 + n % 2147483353 + 401) % 2147483423)]]) := fun far h1 h2 =>
        ⟨mul_okI (by omega) (by omega), by omega, by omega, by decide, k _ _ Sub.refl.new.new (by simp) ⟨far, _, at_new, h1, h2, hs, hs2⟩⟩
      by_cases c1 : n < 0
      · simp only [c1, ↓W_sortSet, ↓W_slT, ↓W_var, ↓W_C, ↓W_bin, ↓W_un, ↓W_chain, ↓W_tru, ↓W_tst, ↓W_notT, ↓W_andT, ↓W_orT, ↓W_andV, ↓W_orV, ↓W_notV, ↓W_if, ↓W_nil, ↓W_cons, ↓W_tup, ↓W_lst, ↓W_call, ↓W_callK, ↓W_noPart, ↓W_part, ↓W_sl, ↓W_meth, ↓W_asg, ↓W_name, ↓W_gnil, ↓W_gcons, ↓W_gseq, ↓W_gsub, ↓W_expr, ↓W_ret, ↓W_retN, ↓W_sif, ↓W_next, ↓W_brk, ↓W_cont, ↓W_sbad, ↓W_seq, ↓W_par2, ↓W_par3, ↓W_for, ↓W_lc, ↓W_yes, ↓W_iseq, ↓W_ienum, ↓W_rng1, ↓W_rng2, ↓W_while, ↓W_fun, ↓W_subD, ↓W_addI, ↓W_addS, ↓W_addT, ↓W_mulI, ↓W_fdiv, ↓W_mod, ↓W_neg, ↓W_ord, ↓W_isi, ↓W_is, ↓W_isnt, ↓W_lenT, ↓W_lenN, ↓W_intI, ↓W_intB, ↓W_abs, ↓W_max2, ↓W_min2, ↓W_divmod, ↓W_tupleT, ↓W_tupleN, ↓W_listT, ↓W_eqI, ↓W_neI, ↓W_eqB, ↓W_neB, ↓W_ix0, ↓W_ix1, ↓W_ix2, ↓its_new, ↓its_tup, ↓lst_new, En.pick, List.filterMap_cons, List.filterMap_nil, tyN, tyM, isT, truD, En.isNon, startE, wipeE, List.map_cons, List.map_nil, List.length_cons, List.length_nil, List.cons_append, List.nil_append, List.replicate_succ, List.replicate_zero, List.getElem?_cons_succ, List.getElem?_cons_zero, List.set_cons_succ, List.set_cons_zero, Nat.reduceSub, Nat.reduceAdd, Nat.zero_add, Nat.reduceLeDiff, Nat.sub_self, Bool.not_true, Bool.not_false, Bool.true_and, Bool.and_true, Bool.false_and, Bool.and_false, Bool.or_true, Bool.true_or, Bool.false_or, Bool.or_false, Bool.false_eq_true, if_true, if_false, ite_true, ite_false, true_and, and_true, decide_true, decide_false, String.reduceBEq, beq_self_eq_true, bne_self_eq_false, Bool.or_self, Bool.and_self, reduceCtorEq, Option.some.injEq, Bool.decide_eq_true, decide_eq_true_eq] at ha ha2 ⊢
        exact ⟨by decide, fin _ ha (Int.le_of_lt ha2)⟩
      · simp only [c1, ↓W_sortSet, ↓W_slT, ↓W_var, ↓W_C, ↓W_bin, ↓W_un, ↓W_chain, ↓W_tru, ↓W_tst, ↓W_notT, ↓W_andT, ↓W_orT, ↓W_andV, ↓W_orV, ↓W_notV, ↓W_if, ↓W_nil, ↓W_cons, ↓W_tup, ↓W_lst, ↓W_call, ↓W_callK, ↓W_noPart, ↓W_part, ↓W_sl, ↓W_meth, ↓W_asg, ↓W_name, ↓W_gnil, ↓W_gcons, ↓W_gseq, ↓W_gsub, ↓W_expr, ↓W_ret, ↓W_retN, ↓W_sif, ↓W_next, ↓W_brk, ↓W_cont, ↓W_sbad, ↓W_seq, ↓W_par2, ↓W_par3, ↓W_for, ↓W_lc, ↓W_yes, ↓W_iseq, ↓W_ienum, ↓W_rng1, ↓W_rng2, ↓W_while, ↓W_fun, ↓W_subD, ↓W_addI, ↓W_addS, ↓W_addT, ↓W_mulI, ↓W_fdiv, ↓W_mod, ↓W_neg, ↓W_ord, ↓W_isi, ↓W_is, ↓W_isnt, ↓W_lenT, ↓W_lenN, ↓W_intI, ↓W_intB, ↓W_abs, ↓W_max2, ↓W_min2, ↓W_divmod, ↓W_tupleT, ↓W_tupleN, ↓W_listT, ↓W_eqI, ↓W_neI, ↓W_eqB, ↓W_neB, ↓W_ix0, ↓W_ix1, ↓W_ix2, ↓its_new, ↓its_tup, ↓lst_new, En.pick, List.filterMap_cons, List.filterMap_nil, tyN, tyM, isT, truD, En.isNon, startE, wipeE, List.map_cons, List.map_nil, List.length_cons, List.length_nil, List.cons_append, List.nil_append, List.replicate_succ, List.replicate_zero, List.getElem?_cons_succ, List.getElem?_cons_zero, List.set_cons_succ, List.set_cons_zero, Nat.reduceSub, Nat.reduceAdd, Nat.zero_add, Nat.reduceLeDiff, Nat.sub_self, Bool.not_true, Bool.not_false, Bool.true_and, Bool.and_true, Bool.false_and, Bool.and_false, Bool.or_true, Bool.true_or, Bool.false_or, Bool.or_false, Bool.false_eq_true, if_true, if_false, ite_true, ite_false, true_and, and_true, decide_true, decide_false, String.reduceBEq, beq_self_eq_true, bne_self_eq_false, Bool.or_self, Bool.and_self, reduceCtorEq, Option.some.injEq, Bool.decide_eq_true, decide_eq_true_eq] at ha ha2 ⊢
        by_cases c2 : 10000000000000000 ≤ n
        · simp only [c2, ↓W_sortSet, ↓W_slT, ↓W_var, ↓W_C, ↓W_bin, ↓W_un, ↓W_chain, ↓W_tru, ↓W_tst, ↓W_notT, ↓W_andT, ↓W_orT, ↓W_andV, ↓W_orV, ↓W_notV, ↓W_if, ↓W_nil, ↓W_cons, ↓W_tup, ↓W_lst, ↓W_call, ↓W_callK, ↓W_noPart, ↓W_part, ↓W_sl, ↓W_meth, ↓W_asg, ↓W_name, ↓W_gnil, ↓W_gcons, ↓W_gseq, ↓W_gsub, ↓W_expr, ↓W_ret, ↓W_retN, ↓W_sif, ↓W_next, ↓W_brk, ↓W_cont, ↓W_sbad, ↓W_seq, ↓W_par2, ↓W_par3, ↓W_for, ↓W_lc, ↓W_yes, ↓W_iseq, ↓W_ienum, ↓W_rng1, ↓W_rng2, ↓W_while, ↓W_fun, ↓W_subD, ↓W_addI, ↓W_addS, ↓W_addT, ↓W_mulI, ↓W_fdiv, ↓W_mod, ↓W_neg, ↓W_ord, ↓W_isi, ↓W_is, ↓W_isnt, ↓W_lenT, ↓W_lenN, ↓W_intI, ↓W_intB, ↓W_abs, ↓W_max2, ↓W_min2, ↓W_divmod, ↓W_tupleT, ↓W_tupleN, ↓W_listT, ↓W_eqI, ↓W_neI, ↓W_eqB, ↓W_neB, ↓W_ix0, ↓W_ix1, ↓W_ix2, ↓its_new, ↓its_tup, ↓lst_new, En.pick, List.filterMap_cons, List.filterMap_nil, tyN, tyM, isT, truD, En.isNon, startE, wipeE, List.map_cons, List.map_nil, List.length_cons, List.length_nil, List.cons_append, List.nil_append, List.replicate_succ, List.replicate_zero, List.getElem?_cons_succ, List.getElem?_cons_zero, List.set_cons_succ, List.set_cons_zero, Nat.reduceSub, Nat.reduceAdd, Nat.zero_add, Nat.reduceLeDiff, Nat.sub_self, Bool.not_true, Bool.not_false, Bool.true_and, Bool.and_true, Bool.false_and, Bool.and_false, Bool.or_true, Bool.true_or, Bool.false_or, Bool.or_false, Bool.false_eq_true, if_true, if_false, ite_true, ite_false, true_and, and_true, decide_true, decide_false, String.reduceBEq, beq_self_eq_true, bne_self_eq_false, Bool.or_self, Bool.and_self, reduceCtorEq, Option.some.injEq, Bool.decide_eq_true, decide_eq_true_eq]
          exact ⟨by decide, fin _ ha (Int.le_of_lt ha2)⟩
        · simp only [c2, ↓W_sortSet, ↓W_slT, ↓W_var, ↓W_C, ↓W_bin, ↓W_un, ↓W_chain, ↓W_tru, ↓W_tst, ↓W_notT, ↓W_andT, ↓W_orT, ↓W_andV, ↓W_orV, ↓W_notV, ↓W_if, ↓W_nil, ↓W_cons, ↓W_tup, ↓W_lst, ↓W_call, ↓W_callK, ↓W_noPart, ↓W_part, ↓W_sl, ↓W_meth, ↓W_asg, ↓W_name, ↓W_gnil, ↓W_gcons, ↓W_gseq, ↓W_gsub, ↓W_expr, ↓W_ret, ↓W_retN, ↓W_sif, ↓W_next, ↓W_brk, ↓W_cont, ↓W_sbad, ↓W_seq, ↓W_par2, ↓W_par3, ↓W_for, ↓W_lc, ↓W_yes, ↓W_iseq, ↓W_ienum, ↓W_rng1, ↓W_rng2, ↓W_while, ↓W_fun, ↓W_subD, ↓W_addI, ↓W_addS, ↓W_addT, ↓W_mulI, ↓W_fdiv, ↓W_mod, ↓W_neg, ↓W_ord, ↓W_isi, ↓W_is, ↓W_isnt, ↓W_lenT, ↓W_lenN, ↓W_intI, ↓W_intB, ↓W_abs, ↓W_max2, ↓W_min2, ↓W_divmod, ↓W_tupleT, ↓W_tupleN, ↓W_listT, ↓W_eqI, ↓W_neI, ↓W_eqB, ↓W_neB, ↓W_ix0, ↓W_ix1, ↓W_ix2, ↓its_new, ↓its_tup, ↓lst_new, En.pick, List.filterMap_cons, List.filterMap_nil, tyN, tyM, isT, truD, En.isNon, startE, wipeE, List.map_cons, List.map_nil, List.length_cons, List.length_nil, List.cons_append, List.nil_append, List.replicate_succ, List.replicate_zero, List.getElem?_cons_succ, List.getElem?_cons_zero, List.set_cons_succ, List.set_cons_zero, Nat.reduceSub, Nat.reduceAdd, Nat.zero_add, Nat.reduceLeDiff, Nat.sub_self, Bool.not_true, Bool.not_false, Bool.true_and, Bool.and_true, Bool.false_and, Bool.and_false, Bool.or_true, Bool.true_or, Bool.false_or, Bool.or_false, Bool.false_eq_true, if_true, if_false, ite_true, ite_false, true_and, and_true, decide_true, decide_false, String.reduceBEq, beq_self_eq_true, bne_self_eq_false, Bool.or_self, Bool.and_self, reduceCtorEq, Option.some.injEq, Bool.decide_eq_true, decide_eq_true_eq]
          exact fin 0 (by omega) (by decide)
  simp only [↓W_sortSet, ↓W_slT, ↓W_var, ↓W_C, ↓W_bin, ↓W_un, ↓W_chain, ↓W_tru, ↓W_tst, ↓W_notT, ↓W_andT, ↓W_orT, ↓W_andV, ↓W_orV, ↓W_notV, ↓W_if, ↓W_nil, ↓W_cons, ↓W_tup, ↓W_lst, ↓W_call, ↓W_callK, ↓W_noPart, ↓W_part, ↓W_sl, ↓W_meth, ↓W_asg, ↓W_name, ↓W_gnil, ↓W_gcons, ↓W_gseq, ↓W_gsub, ↓W_expr, ↓W_ret, ↓W_retN, ↓W_sif, ↓W_next, ↓W_brk, ↓W_cont, ↓W_sbad, ↓W_seq, ↓W_par2, ↓W_par3, ↓W_for, ↓W_lc, ↓W_yes, ↓W_iseq, ↓W_ienum, ↓W_rng1, ↓W_rng2, ↓W_while, ↓W_fun, ↓W_subD, ↓W_addI, ↓W_addS, ↓W_addT, ↓W_mulI, ↓W_fdiv, ↓W_mod, ↓W_neg, ↓W_ord, ↓W_isi, ↓W_is, ↓W_isnt, ↓W_lenT, ↓W_lenN, ↓W_intI, ↓W_intB, ↓W_abs, ↓W_max2, ↓W_min2, ↓W_divmod, ↓W_tupleT, ↓W_tupleN, ↓W_listT, ↓W_eqI, ↓W_neI, ↓W_eqB, ↓W_neB, ↓W_ix0, ↓W_ix1, ↓W_ix2, ↓its_new, ↓its_tup, ↓lst_new, En.pick, List.filterMap_cons, List.filterMap_nil, tyN, tyM, isT, truD, En.isNon, startE, wipeE, List.map_cons, List.map_nil, List.length_cons, List.length_nil, List.cons_append, List.nil_append, List.replicate_succ, List.replicate_zero, List.getElem?_cons_succ, List.getElem?_cons_zero, List.set_cons_succ, List.set_cons_zero, Nat.reduceSub, Nat.reduceAdd, Nat.zero_add, Nat.reduceLeDiff, Nat.sub_self, Bool.not_true, Bool.not_false, Bool.true_and, Bool.and_true, Bool.false_and, Bool.and_false, Bool.or_true, Bool.true_or, Bool.false_or, Bool.or_false, Bool.false_eq_true, if_true, if_false, ite_true, ite_false, true_and, and_true, decide_true, decide_false, String.reduceBEq, beq_self_eq_true, bne_self_eq_false, Bool.or_self, Bool.and_self, reduceCtorEq, Option.some.injEq, Bool.decide_eq_true, decide_eq_true_eq]
  rw [W_len (ds := ns.map D.int) rfl]
  try simp only [↓W_sortSet, ↓W_slT, ↓W_var, ↓W_C, ↓W_bin, ↓W_un, ↓W_chain, ↓W_tru, ↓W_tst, ↓W_notT, ↓W_andT, ↓W_orT, ↓W_andV, ↓W_orV, ↓W_notV, ↓W_if, ↓W_nil, ↓W_cons, ↓W_tup, ↓W_lst, ↓W_call, ↓W_callK, ↓W_noPart, ↓W_part, ↓W_sl, ↓W_meth, ↓W_asg, ↓W_name, ↓W_gnil, ↓W_gcons, ↓W_gseq, ↓W_gsub, ↓W_expr, ↓W_ret, ↓W_retN, ↓W_sif, ↓W_next, ↓W_brk, ↓W_cont, ↓W_sbad, ↓W_seq, ↓W_par2, ↓W_par3, ↓W_for, ↓W_lc, ↓W_yes, ↓W_iseq, ↓W_ienum, ↓W_rng1, ↓W_rng2, ↓W_while, ↓W_fun, ↓W_subD, ↓W_addI, ↓W_addS, ↓W_addT, ↓W_mulI, ↓W_fdiv, ↓W_mod, ↓W_neg, ↓W_ord, ↓W_isi, ↓W_is, ↓W_isnt, ↓W_lenT, ↓W_lenN, ↓W_intI, ↓W_intB, ↓W_abs, ↓W_max2, ↓W_min2, ↓W_divmod, ↓W_tupleT, ↓W_tupleN, ↓W_listT, ↓W_eqI, ↓W_neI, ↓W_eqB, ↓W_neB, ↓W_ix0, ↓W_ix1, ↓W_ix2, ↓its_new, ↓its_tup, ↓lst_new, En.pick, List.filterMap_cons, List.filterMap_nil, tyN, tyM, isT, truD, En.isNon, startE, wipeE, List.map_cons, List.map_nil, List.length_cons, List.length_nil, List.cons_append, List.nil_append, List.replicate_succ, List.replicate_zero, List.getElem?_cons_succ, List.getElem?_cons_zero, List.set_cons_succ, List.set_cons_zero, Nat.reduceSub, Nat.reduceAdd, Nat.zero_add, Nat.reduceLeDiff, Nat.sub_self, Bool.not_true, Bool.not_false, Bool.true_and, Bool.and_true, Bool.false_and, Bool.and_false, Bool.or_true, Bool.true_or, Bool.false_or, Bool.or_false, Bool.false_eq_true, if_true, if_false, ite_true, ite_false, true_and, and_true, decide_true, decide_false, String.reduceBEq, beq_self_eq_true, bne_self_eq_false, Bool.or_self, Bool.and_self, reduceCtorEq, Option.some.injEq, Bool.decide_eq_true, decide_eq_true_eq]
  by_cases hl : (lap : Int) < ((ns.map D.int).length : Int)
  · simp only [hl, ↓W_sortSet, ↓W_slT, ↓W_var, ↓W_C, ↓W_bin, ↓W_un, ↓W_chain, ↓W_tru, ↓W_tst, ↓W_notT, ↓W_andT, ↓W_orT, ↓W_andV, ↓W_orV, ↓W_notV, ↓W_if, ↓W_nil, ↓W_cons, ↓W_tup, ↓W_lst, ↓W_call, ↓W_callK, ↓W_noPart, ↓W_part, ↓W_sl, ↓W_meth, ↓W_asg, ↓W_name, ↓W_gnil, ↓W_gcons, ↓W_gseq, ↓W_gsub, ↓W_expr, ↓W_ret, ↓W_retN, ↓W_sif, ↓W_next, ↓W_brk, ↓W_cont, ↓W_sbad, ↓W_seq, ↓W_par2, ↓W_par3, ↓W_for, ↓W_lc, ↓W_yes, ↓W_iseq, ↓W_ienum, ↓W_rng1, ↓W_rng2, ↓W_while, ↓W_fun, ↓W_subD, ↓W_addI, ↓W_addS, ↓W_addT, ↓W_mulI, ↓W_fdiv, ↓W_mod, ↓W_neg, ↓W_ord, ↓W_isi, ↓W_is, ↓W_isnt, ↓W_lenT, ↓W_lenN, ↓W_intI, ↓W_intB, ↓W_abs, ↓W_max2, ↓W_min2, ↓W_divmod, ↓W_tupleT, ↓W_tupleN, ↓W_listT, ↓W_eqI, ↓W_neI, ↓W_eqB, ↓W_neB, ↓W_ix0, ↓W_ix1, ↓W_ix2, ↓its_new, ↓its_tup, ↓lst_new, En.pick, List.filterMap_cons, List.filterMap_nil, tyN, tyM, isT, truD, En.isNon, startE, wipeE, List.map_cons, List.map_nil, List.length_cons, List.length_nil, List.cons_append, List.nil_append, List.replicate_succ, List.replicate_zero, List.getElem?_cons_succ, List.getElem?_cons_zero, List.set_cons_succ, List.set_cons_zero, Nat.reduceSub, Nat.reduceAdd, Nat.zero_add, Nat.reduceLeDiff, Nat.sub_self, Bool.not_true, Bool.not_false, Bool.true_and, Bool.and_true, Bool.false_and, Bool.and_false, Bool.or_true, Bool.true_or, Bool.false_or, Bool.or_false, Bool.false_eq_true, if_true, if_false, ite_true, ite_false, true_and, and_true, decide_true, decide_false, String.reduceBEq, beq_self_eq_true, bne_self_eq_false, Bool.or_self, Bool.and_self, reduceCtorEq, Option.some.injEq, Bool.decide_eq_true, decide_eq_true_eq]
    rw [List.length_map] at hl
    rw [W_ix (ds := ns.map D.int) rfl, En.atI_nat, int_at (i := lap) (by omega)]
    try simp only [↓W_sortSet, ↓W_slT, ↓W_var, ↓W_C, ↓W_bin, ↓W_un, ↓W_chain, ↓W_tru, ↓W_tst, ↓W_notT, ↓W_andT, ↓W_orT, ↓W_andV, ↓W_orV, ↓W_notV, ↓W_if, ↓W_nil, ↓W_cons, ↓W_tup, ↓W_lst, ↓W_call, ↓W_callK, ↓W_noPart, ↓W_part, ↓W_sl, ↓W_meth, ↓W_asg, ↓W_name, ↓W_gnil, ↓W_gcons, ↓W_gseq, ↓W_gsub, ↓W_expr, ↓W_ret, ↓W_retN, ↓W_sif, ↓W_next, ↓W_brk, ↓W_cont, ↓W_sbad, ↓W_seq, ↓W_par2, ↓W_par3, ↓W_for, ↓W_lc, ↓W_yes, ↓W_iseq, ↓W_ienum, ↓W_rng1, ↓W_rng2, ↓W_while, ↓W_fun, ↓W_subD, ↓W_addI, ↓W_addS, ↓W_addT, ↓W_mulI, ↓W_fdiv, ↓W_mod, ↓W_neg, ↓W_ord, ↓W_isi, ↓W_is, ↓W_isnt, ↓W_lenT, ↓W_lenN, ↓W_intI, ↓W_intB, ↓W_abs, ↓W_max2, ↓W_min2, ↓W_divmod, ↓W_tupleT, ↓W_tupleN, ↓W_listT, ↓W_eqI, ↓W_neI, ↓W_eqB, ↓W_neB, ↓W_ix0, ↓W_ix1, ↓W_ix2, ↓its_new, ↓its_tup, ↓lst_new, En.pick, List.filterMap_cons, List.filterMap_nil, tyN, tyM, isT, truD, En.isNon, startE, wipeE, List.map_cons, List.map_nil, List.length_cons, List.length_nil, List.cons_append, List.nil_append, List.replicate_succ, List.replicate_zero, List.getElem?_cons_succ, List.getElem?_cons_zero, List.set_cons_succ, List.set_cons_zero, Nat.reduceSub, Nat.reduceAdd, Nat.zero_add, Nat.reduceLeDiff, Nat.sub_self, Bool.not_true, Bool.not_false, Bool.true_and, Bool.and_true, Bool.false_and, Bool.and_false, Bool.or_true, Bool.true_or, Bool.false_or, Bool.or_false, Bool.false_eq_true, if_true, if_false, ite_true, ite_false, true_and, and_true, decide_true, decide_false, String.reduceBEq, beq_self_eq_true, bne_self_eq_false, Bool.or_self, Bool.and_self, reduceCtorEq, Option.some.injEq, Bool.decide_eq_true, decide_eq_true_eq]
    exact ⟨mul_okI (by omega) (by omega), main _⟩
  · simp only [hl, ↓W_sortSet, ↓W_slT, ↓W_var, ↓W_C, ↓W_bin, ↓W_un, ↓W_chain, ↓W_tru, ↓W_tst, ↓W_notT, ↓W_andT, ↓W_orT, ↓W_andV, ↓W_orV, ↓W_notV, ↓W_if, ↓W_nil, ↓W_cons, ↓W_tup, ↓W_lst, ↓W_call, ↓W_callK, ↓W_noPart, ↓W_part, ↓W_sl, ↓W_meth, ↓W_asg, ↓W_name, ↓W_gnil, ↓W_gcons, ↓W_gseq, ↓W_gsub, ↓W_expr, ↓W_ret, ↓W_retN, ↓W_sif, ↓W_next, ↓W_brk, ↓W_cont, ↓W_sbad, ↓W_seq, ↓W_par2, ↓W_par3, ↓W_for, ↓W_lc, ↓W_yes, ↓W_iseq, ↓W_ienum, ↓W_rng1, ↓W_rng2, ↓W_while, ↓W_fun, ↓W_subD, ↓W_addI, ↓W_addS, ↓W_addT, ↓W_mulI, ↓W_fdiv, ↓W_mod, ↓W_neg, ↓W_ord, ↓W_isi, ↓W_is, ↓W_isnt, ↓W_lenT, ↓W_lenN, ↓W_intI, ↓W_intB, ↓W_abs, ↓W_max2, ↓W_min2, ↓W_divmod, ↓W_tupleT, ↓W_tupleN, ↓W_listT, ↓W_eqI, ↓W_neI, ↓W_eqB, ↓W_neB, ↓W_ix0, ↓W_ix1, ↓W_ix2, ↓its_new, ↓its_tup, ↓lst_new, En.pick, List.filterMap_cons, List.filterMap_nil, tyN, tyM, isT, truD, En.isNon, startE, wipeE, List.map_cons, List.map_nil, List.length_cons, List.length_nil, List.cons_append, List.nil_append, List.replicate_succ, List.replicate_zero, List.getElem?_cons_succ, List.getElem?_cons_zero, List.set_cons_succ, List.set_cons_zero, Nat.reduceSub, Nat.reduceAdd, Nat.zero_add, Nat.reduceLeDiff, Nat.sub_self, Bool.not_true, Bool.not_false, Bool.true_and, Bool.and_true, Bool.false_and, Bool.and_false, Bool.or_true, Bool.true_or, Bool.false_or, Bool.or_false, Bool.false_eq_true, if_true, if_false, ite_true, ite_false, true_and, and_true, decide_true, decide_false, String.reduceBEq, beq_self_eq_true, bne_self_eq_false, Bool.or_self, Bool.and_self, reduceCtorEq, Option.some.injEq, Bool.decide_eq_true, decide_eq_true_eq]
    exact ⟨mul_okI (by omega) (by omega), main 0⟩
theorem law_true (ns : List Int) (hn : ns.length ≤ 63) : ∃ S', m_law [.rol (ns.map D.int)] [] = .ok (.bl true) S' := by
  have : W (m_law [.rol (ns.map D.int)] []) fun d _ => d = .bl true := by
    simp only [m_law, ↓W_sortSet, ↓W_slT, ↓W_var, ↓W_C, ↓W_bin, ↓W_un, ↓W_chain, ↓W_tru, ↓W_tst, ↓W_notT, ↓W_andT, ↓W_orT, ↓W_andV, ↓W_orV, ↓W_notV, ↓W_if, ↓W_nil, ↓W_cons, ↓W_tup, ↓W_lst, ↓W_call, ↓W_callK, ↓W_noPart, ↓W_part, ↓W_sl, ↓W_meth, ↓W_asg, ↓W_name, ↓W_gnil, ↓W_gcons, ↓W_gseq, ↓W_gsub, ↓W_expr, ↓W_ret, ↓W_retN, ↓W_sif, ↓W_next, ↓W_brk, ↓W_cont, ↓W_sbad, ↓W_seq, ↓W_par2, ↓W_par3, ↓W_for, ↓W_lc, ↓W_yes, ↓W_iseq, ↓W_ienum, ↓W_rng1, ↓W_rng2, ↓W_while, ↓W_fun, ↓W_subD, ↓W_addI, ↓W_addS, ↓W_addT, ↓W_mulI, ↓W_fdiv, ↓W_mod, ↓W_neg, ↓W_ord, ↓W_isi, ↓W_is, ↓W_isnt, ↓W_lenT, ↓W_lenN, ↓W_intI, ↓W_intB, ↓W_abs, ↓W_max2, ↓W_min2, ↓W_divmod, ↓W_tupleT, ↓W_tupleN, ↓W_listT, ↓W_eqI, ↓W_neI, ↓W_eqB, ↓W_neB, ↓W_ix0, ↓W_ix1, ↓W_ix2, ↓its_new, ↓its_tup, ↓lst_new, En.pick, List.filterMap_cons, List.filterMap_nil, tyN, tyM, isT, truD, En.isNon, startE, wipeE, List.map_cons, List.map_nil, List.length_cons, List.length_nil, List.cons_append, List.nil_append, List.replicate_succ, List.replicate_zero, List.getElem?_cons_succ, List.getElem?_cons_zero, List.set_cons_succ, List.set_cons_zero, Nat.reduceSub, Nat.reduceAdd, Nat.zero_add, Nat.reduceLeDiff, Nat.sub_self, Bool.not_true, Bool.not_false, Bool.true_and, Bool.and_true, Bool.false_and, Bool.and_false, Bool.or_true, Bool.true_or, Bool.false_or, Bool.or_false, Bool.false_eq_true, if_true, if_false, ite_true, ite_false, true_and, and_true, decide_true, decide_false, String.reduceBEq, beq_self_eq_true, bne_self_eq_false, Bool.or_self, Bool.and_self, reduceCtorEq, Option.some.injEq, Bool.decide_eq_true, decide_eq_true_eq]
    rw [W_len (ds := ns.map D.int) rfl]
    try simp only [↓W_sortSet, ↓W_slT, ↓W_var, ↓W_C, ↓W_bin, ↓W_un, ↓W_chain, ↓W_tru, ↓W_tst, ↓W_notT, ↓W_andT, ↓W_orT, ↓W_andV, ↓W_orV, ↓W_notV, ↓W_if, ↓W_nil, ↓W_cons, ↓W_tup, ↓W_lst, ↓W_call, ↓W_callK, ↓W_noPart, ↓W_part, ↓W_sl, ↓W_meth, ↓W_asg, ↓W_name, ↓W_gnil, ↓W_gcons, ↓W_gseq, ↓W_gsub, ↓W_expr, ↓W_ret, ↓W_retN, ↓W_sif, ↓W_next, ↓W_brk, ↓W_cont, ↓W_sbad, ↓W_seq, ↓W_par2, ↓W_par3, ↓W_for, ↓W_lc, ↓W_yes, ↓W_iseq, ↓W_ienum, ↓W_rng1, ↓W_rng2, ↓W_while, ↓W_fun, ↓W_subD, ↓W_addI, ↓W_addS, ↓W_addT, ↓W_mulI, ↓W_fdiv, ↓W_mod, ↓W_neg, ↓W_ord, ↓W_isi, ↓W_is, ↓W_isnt, ↓W_lenT, ↓W_lenN, ↓W_intI, ↓W_intB, ↓W_abs, ↓W_max2, ↓W_min2, ↓W_divmod, ↓W_tupleT, ↓W_tupleN, ↓W_listT, ↓W_eqI, ↓W_neI, ↓W_eqB, ↓W_neB, ↓W_ix0, ↓W_ix1, ↓W_ix2, ↓its_new, ↓its_tup, ↓lst_new, En.pick, List.filterMap_cons, List.filterMap_nil, tyN, tyM, isT, truD, En.isNon, startE, wipeE, List.map_cons, List.map_nil, List.length_cons, List.length_nil, List.cons_append, List.nil_append, List.replicate_succ, List.replicate_zero, List.getElem?_cons_succ, List.getElem?_cons_zero, List.set_cons_succ, List.set_cons_zero, Nat.reduceSub, Nat.reduceAdd, Nat.zero_add, Nat.reduceLeDiff, Nat.sub_self, Bool.not_true, Bool.not_false, Bool.true_and, Bool.and_true, Bool.false_and, Bool.and_false, Bool.or_true, Bool.true_or, Bool.false_or, Bool.or_false, Bool.false_eq_true, if_true, if_false, ite_true, ite_false, true_and, and_true, decide_true, decide_false, String.reduceBEq, beq_self_eq_true, bne_self_eq_false, Bool.or_self, Bool.and_self, reduceCtorEq, Option.some.injEq, Bool.decide_eq_true, decide_eq_true_eq]
    obtain ⟨n, hn3, en⟩ : ∃ n : Nat, n ≤ 3 ∧ (if (if (3 : Int) < ((ns.map D.int).length : Int) then 3 else ((ns.map D.int).length : Int)) > 1 then (if (3 : Int) < ((ns.map D.int).length : Int) then 3 else ((ns.map D.int).length : Int)) else 1) = (n : Int) := by
      refine ⟨(if (if (3 : Int) < ((ns.map D.int).length : Int) then 3 else ((ns.map D.int).length : Int)) > 1 then (if (3 : Int) < ((ns.map D.int).length : Int) then 3 else ((ns.map D.int).length : Int)) else 1).toNat, ?_, ?_⟩
      · split <;> split <;> omega
      · split <;> split <;> omega
    rw [en]
    refine ⟨by omega, ?_⟩
    rw [show ((n : Int)).toNat = n from by simp, rng0]
    refine W_lcM (c := fun i : Nat => D.int (i : Int)) (v := fun _ => .bl true) rfl (fun i hi S1 s => ?_) fun S1 s => ⟨by rw [List.length_map, List.length_range]; exact le_lim (by omega), ?_⟩
    · have hi := List.mem_range.mp hi
      try simp only [↓W_sortSet, ↓W_slT, ↓W_var, ↓W_C, ↓W_bin, ↓W_un, ↓W_chain, ↓W_tru, ↓W_tst, ↓W_notT, ↓W_andT, ↓W_orT, ↓W_andV, ↓W_orV, ↓W_notV, ↓W_if, ↓W_nil, ↓W_cons, ↓W_tup, ↓W_lst, ↓W_call, ↓W_callK, ↓W_noPart, ↓W_part, ↓W_sl, ↓W_meth, ↓W_asg, ↓W_name, ↓W_gnil, ↓W_gcons, ↓W_gseq, ↓W_gsub, ↓W_expr, ↓W_ret, ↓W_retN, ↓W_sif, ↓W_next, ↓W_brk, ↓W_cont, ↓W_sbad, ↓W_seq, ↓W_par2, ↓W_par3, ↓W_for, ↓W_lc, ↓W_yes, ↓W_iseq, ↓W_ienum, ↓W_rng1, ↓W_rng2, ↓W_while, ↓W_fun, ↓W_subD, ↓W_addI, ↓W_addS, ↓W_addT, ↓W_mulI, ↓W_fdiv, ↓W_mod, ↓W_neg, ↓W_ord, ↓W_isi, ↓W_is, ↓W_isnt, ↓W_lenT, ↓W_lenN, ↓W_intI, ↓W_intB, ↓W_abs, ↓W_max2, ↓W_min2, ↓W_divmod, ↓W_tupleT, ↓W_tupleN, ↓W_listT, ↓W_eqI, ↓W_neI, ↓W_eqB, ↓W_neB, ↓W_ix0, ↓W_ix1, ↓W_ix2, ↓its_new, ↓its_tup, ↓lst_new, En.pick, List.filterMap_cons, List.filterMap_nil, tyN, tyM, isT, truD, En.isNon, startE, wipeE, List.map_cons, List.map_nil, List.length_cons, List.length_nil, List.cons_append, List.nil_append, List.replicate_succ, List.replicate_zero, List.getElem?_cons_succ, List.getElem?_cons_zero, List.set_cons_succ, List.set_cons_zero, Nat.reduceSub, Nat.reduceAdd, Nat.zero_add, Nat.reduceLeDiff, Nat.sub_self, Bool.not_true, Bool.not_false, Bool.true_and, Bool.and_true, Bool.false_and, Bool.and_false, Bool.or_true, Bool.true_or, Bool.false_or, Bool.or_false, Bool.false_eq_true, if_true, if_false, ite_true, ite_false, true_and, and_true, decide_true, decide_false, String.reduceBEq, beq_self_eq_true, bne_self_eq_false, Bool.or_self, Bool.and_self, reduceCtorEq, Option.some.injEq, Bool.decide_eq_true, decide_eq_true_eq]
      refine bowl_spec (by omega) fun b S2 s2 hb w2 => ?_
      try simp only [↓W_sortSet, ↓W_slT, ↓W_var, ↓W_C, ↓W_bin, ↓W_un, ↓W_chain, ↓W_tru, ↓W_tst, ↓W_notT, ↓W_andT, ↓W_orT, ↓W_andV, ↓W_orV, ↓W_notV, ↓W_if, ↓W_nil, ↓W_cons, ↓W_tup, ↓W_lst, ↓W_call, ↓W_callK, ↓W_noPart, ↓W_part, ↓W_sl, ↓W_meth, ↓W_asg, ↓W_name, ↓W_gnil, ↓W_gcons, ↓W_gseq, ↓W_gsub, ↓W_expr, ↓W_ret, ↓W_retN, ↓W_sif, ↓W_next, ↓W_brk, ↓W_cont, ↓W_sbad, ↓W_seq, ↓W_par2, ↓W_par3, ↓W_for, ↓W_lc, ↓W_yes, ↓W_iseq, ↓W_ienum, ↓W_rng1, ↓W_rng2, ↓W_while, ↓W_fun, ↓W_subD, ↓W_addI, ↓W_addS, ↓W_addT, ↓W_mulI, ↓W_fdiv, ↓W_mod, ↓W_neg, ↓W_ord, ↓W_isi, ↓W_is, ↓W_isnt, ↓W_lenT, ↓W_lenN, ↓W_intI, ↓W_intB, ↓W_abs, ↓W_max2, ↓W_min2, ↓W_divmod, ↓W_tupleT, ↓W_tupleN, ↓W_listT, ↓W_eqI, ↓W_neI, ↓W_eqB, ↓W_neB, ↓W_ix0, ↓W_ix1, ↓W_ix2, ↓its_new, ↓its_tup, ↓lst_new, En.pick, List.filterMap_cons, List.filterMap_nil, tyN, tyM, isT, truD, En.isNon, startE, wipeE, List.map_cons, List.map_nil, List.length_cons, List.length_nil, List.cons_append, List.nil_append, List.replicate_succ, List.replicate_zero, List.getElem?_cons_succ, List.getElem?_cons_zero, List.set_cons_succ, List.set_cons_zero, Nat.reduceSub, Nat.reduceAdd, Nat.zero_add, Nat.reduceLeDiff, Nat.sub_self, Bool.not_true, Bool.not_false, Bool.true_and, Bool.and_true, Bool.false_and, Bool.and_false, Bool.or_true, Bool.true_or, Bool.false_or, Bool.or_false, Bool.false_eq_true, if_true, if_false, ite_true, ite_false, true_and, and_true, decide_true, decide_false, String.reduceBEq, beq_self_eq_true, bne_self_eq_false, Bool.or_self, Bool.and_self, reduceCtorEq, Option.some.injEq, Bool.decide_eq_true, decide_eq_true_eq]
      refine right_spec w2 fun S3 s3 => ?_
      try simp only [↓W_sortSet, ↓W_slT, ↓W_var, ↓W_C, ↓W_bin, ↓W_un, ↓W_chain, ↓W_tru, ↓W_tst, ↓W_notT, ↓W_andT, ↓W_orT, ↓W_andV, ↓W_orV, ↓W_notV, ↓W_if, ↓W_nil, ↓W_cons, ↓W_tup, ↓W_lst, ↓W_call, ↓W_callK, ↓W_noPart, ↓W_part, ↓W_sl, ↓W_meth, ↓W_asg, ↓W_name, ↓W_gnil, ↓W_gcons, ↓W_gseq, ↓W_gsub, ↓W_expr, ↓W_ret, ↓W_retN, ↓W_sif, ↓W_next, ↓W_brk, ↓W_cont, ↓W_sbad, ↓W_seq, ↓W_par2, ↓W_par3, ↓W_for, ↓W_lc, ↓W_yes, ↓W_iseq, ↓W_ienum, ↓W_rng1, ↓W_rng2, ↓W_while, ↓W_fun, ↓W_subD, ↓W_addI, ↓W_addS, ↓W_addT, ↓W_mulI, ↓W_fdiv, ↓W_mod, ↓W_neg, ↓W_ord, ↓W_isi, ↓W_is, ↓W_isnt, ↓W_lenT, ↓W_lenN, ↓W_intI, ↓W_intB, ↓W_abs, ↓W_max2, ↓W_min2, ↓W_divmod, ↓W_tupleT, ↓W_tupleN, ↓W_listT, ↓W_eqI, ↓W_neI, ↓W_eqB, ↓W_neB, ↓W_ix0, ↓W_ix1, ↓W_ix2, ↓its_new, ↓its_tup, ↓lst_new, En.pick, List.filterMap_cons, List.filterMap_nil, tyN, tyM, isT, truD, En.isNon, startE, wipeE, List.map_cons, List.map_nil, List.length_cons, List.length_nil, List.cons_append, List.nil_append, List.replicate_succ, List.replicate_zero, List.getElem?_cons_succ, List.getElem?_cons_zero, List.set_cons_succ, List.set_cons_zero, Nat.reduceSub, Nat.reduceAdd, Nat.zero_add, Nat.reduceLeDiff, Nat.sub_self, Bool.not_true, Bool.not_false, Bool.true_and, Bool.and_true, Bool.false_and, Bool.and_false, Bool.or_true, Bool.true_or, Bool.false_or, Bool.or_false, Bool.false_eq_true, if_true, if_false, ite_true, ite_false, true_and, and_true, decide_true, decide_false, String.reduceBEq, beq_self_eq_true, bne_self_eq_false, Bool.or_self, Bool.and_self, reduceCtorEq, Option.some.injEq, Bool.decide_eq_true, decide_eq_true_eq]
      refine fun j c hj => s3.2 j c ?_ (s2 j c hj)
      have := (List.getElem?_eq_some_iff.mp hj).1
      omega
    · rw [W_all (bs := (List.range n).map fun _ => true) (by rw [lst_new, List.map_map]; rfl)]
      simp
  obtain ⟨d, S', e, rfl⟩ := this
  exact ⟨S', e⟩
end L_k07
namespace L_k07
open PySem L2 En
/-! ### the text -/
def top (i : Nat) : Stmt := PySem.Challenge.pw_powerrows_k07_needless_elements_and_lean.main.body.getD i (.Pass ⟨0, 0, 0, 0⟩)
abbrev s__law_row_by : Stmt := top 31
theorem sc__law_row_by : FnScope ["plan", "found", "i", "j"] ["plan"] (defScope s__law_row_by) := ⟨rfl, rfl, rfl, by decide +kernel, rfl, by decide +kernel, by decide +kernel⟩
abbrev s__law_known : Stmt := top 34
theorem sc__law_known : FnScope ["twice", "k", "slow"] [] (defScope s__law_known) := ⟨rfl, rfl, rfl, by decide +kernel, rfl, by decide +kernel, by decide +kernel⟩
abbrev s__law_same : Stmt := top 27
theorem sc__law_same : FnScope ["told", "due", "k"] ["told", "due"] (defScope s__law_same) := ⟨rfl, rfl, rfl, by decide +kernel, rfl, by decide +kernel, by decide +kernel⟩
abbrev s__law_draw : Stmt := top 25
theorem sc__law_draw : FnScope ["bowl", "many", "figure"] ["bowl", "many"] (defScope s__law_draw) := ⟨rfl, rfl, rfl, by decide +kernel, rfl, by decide +kernel, by decide +kernel⟩
abbrev s__law_of : Stmt := top 26
theorem sc__law_of : FnScope ["bowl", "some"] ["bowl", "some"] (defScope s__law_of) := ⟨rfl, rfl, rfl, by decide +kernel, rfl, by decide +kernel, by decide +kernel⟩
abbrev s__law_plan : Stmt := top 32
theorem sc__law_plan : FnScope ["bowl", "most", "kind", "found", "row", "k", "some", "i", "j", "pair"] ["bowl", "most"] (defScope s__law_plan) := ⟨rfl, rfl, rfl, by decide +kernel, rfl, by decide +kernel, by decide +kernel⟩
abbrev s__law_row : Stmt := top 33
theorem sc__law_row : FnScope ["bowl", "most"] ["bowl", "most"] (defScope s__law_row) := ⟨rfl, rfl, rfl, by decide +kernel, rfl, by decide +kernel, by decide +kernel⟩
abbrev s_is_whole : Stmt := top 4
theorem sc_is_whole : FnScope ["value"] ["value"] (defScope s_is_whole) := ⟨rfl, rfl, rfl, by decide +kernel, rfl, by decide +kernel, by decide +kernel⟩
abbrev s_is_sum_in : Stmt := top 7
theorem sc_is_sum_in : FnScope ["row", "number", "each"] ["row", "number"] (defScope s_is_sum_in) := ⟨rfl, rfl, rfl, by decide +kernel, rfl, by decide +kernel, by decide +kernel⟩
abbrev s_wrong_in_row : Stmt := top 8
theorem sc_wrong_in_row : FnScope ["value", "index", "each"] ["value"] (defScope s_wrong_in_row) := ⟨rfl, rfl, rfl, by decide +kernel, rfl, by decide +kernel, by decide +kernel⟩
abbrev s_check_row : Stmt := top 11
theorem sc_check_row : FnScope ["row", "index"] ["row"] (defScope s_check_row) := ⟨rfl, rfl, rfl, by decide +kernel, rfl, by decide +kernel, by decide +kernel⟩
abbrev s_is_row_value : Stmt := top 9
theorem sc_is_row_value : FnScope ["value"] ["value"] (defScope s_is_row_value) := ⟨rfl, rfl, rfl, by decide +kernel, rfl, by decide +kernel, by decide +kernel⟩
abbrev s_without : Stmt := top 13
theorem sc_without : FnScope ["row", "index"] ["row", "index"] (defScope s_without) := ⟨rfl, rfl, rfl, by decide +kernel, rfl, by decide +kernel, by decide +kernel⟩
abbrev s_needless_in : Stmt := top 14
theorem sc_needless_in : FnScope ["row", "index"] ["row"] (defScope s_needless_in) := ⟨rfl, rfl, rfl, by decide +kernel, rfl, by decide +kernel, by decide +kernel⟩
abbrev s_needless : Stmt := top 17
theorem sc_needless : FnScope ["row"] ["row"] (defScope s_needless) := ⟨rfl, rfl, rfl, by decide +kernel, rfl, by decide +kernel, by decide +kernel⟩
abbrev s_leaned_by : Stmt := top 15
theorem sc_leaned_by : FnScope ["row", "found"] ["row"] (defScope s_leaned_by) := ⟨rfl, rfl, rfl, by decide +kernel, rfl, by decide +kernel, by decide +kernel⟩
abbrev s_leaned : Stmt := top 19
theorem sc_leaned : FnScope ["row"] ["row"] (defScope s_leaned) := ⟨rfl, rfl, rfl, by decide +kernel, rfl, by decide +kernel, by decide +kernel⟩
abbrev s_is_lean : Stmt := top 18
theorem sc_is_lean : FnScope ["row"] ["row"] (defScope s_is_lean) := ⟨rfl, rfl, rfl, by decide +kernel, rfl, by decide +kernel, by decide +kernel⟩
abbrev s__law_is_whole : Stmt := top 28
theorem sc__law_is_whole : FnScope ["value"] ["value"] (defScope s__law_is_whole) := ⟨rfl, rfl, rfl, by decide +kernel, rfl, by decide +kernel, by decide +kernel⟩
abbrev s__law_reasons : Stmt := top 29
theorem sc__law_reasons : FnScope ["row", "at", "found", "i", "j"] ["row", "at"] (defScope s__law_reasons) := ⟨rfl, rfl, rfl, by decide +kernel, rfl, by decide +kernel, by decide +kernel⟩
abbrev s__law_row_wrong : Stmt := top 30
theorem sc__law_row_wrong : FnScope ["value", "k"] ["value"] (defScope s__law_row_wrong) := ⟨rfl, rfl, rfl, by decide +kernel, rfl, by decide +kernel, by decide +kernel⟩
abbrev s__law_needless : Stmt := top 35
theorem sc__law_needless : FnScope ["row", "k"] ["row"] (defScope s__law_needless) := ⟨rfl, rfl, rfl, by decide +kernel, rfl, by decide +kernel, by decide +kernel⟩
abbrev s__law_leaned : Stmt := top 36
theorem sc__law_leaned : FnScope ["row", "at"] ["row"] (defScope s__law_leaned) := ⟨rfl, rfl, rfl, by decide +kernel, rfl, by decide +kernel, by decide +kernel⟩
abbrev s_made : Stmt := top 22
theorem sc_made : FnScope ["row"] ["row"] (defScope s_made) := ⟨rfl, rfl, rfl, by decide +kernel, rfl, by decide +kernel, by decide +kernel⟩
abbrev s_is_row : Stmt := top 21
theorem sc_is_row : FnScope ["value"] ["value"] (defScope s_is_row) := ⟨rfl, rfl, rfl, by decide +kernel, rfl, by decide +kernel, by decide +kernel⟩
abbrev s__law_row_right : Stmt := top 37
theorem sc__law_row_right : FnScope ["row", "due", "less", "told", "at"] ["row"] (defScope s__law_row_right) := ⟨rfl, rfl, rfl, by decide +kernel, rfl, by decide +kernel, by decide +kernel⟩
abbrev s__law_right : Stmt := top 38
theorem sc__law_right : FnScope ["bowl", "lap", "row", "more", "each", "some", "told"] ["bowl"] (defScope s__law_right) := ⟨rfl, rfl, rfl, by decide +kernel, rfl, by decide +kernel, by decide +kernel⟩
abbrev s__law_bowl : Stmt := top 24
theorem sc__law_bowl : FnScope ["script", "lap", "own", "stir", "cell", "far"] ["script", "lap"] (defScope s__law_bowl) := ⟨rfl, rfl, rfl, by decide +kernel, rfl, by decide +kernel, by decide +kernel⟩
abbrev s_law : Stmt := top 39
theorem sc_law : FnScope ["script", "lap"] ["script"] (defScope s_law) := ⟨rfl, rfl, rfl, by decide +kernel, rfl, by decide +kernel, by decide +kernel⟩
abbrev dd (x : Str) (s : Stmt) : He.DefD := ⟨(x, none), x, x, defArgs s, defBody s, defScope s, [], []⟩
def fns : List He.DefD := [dd "_law_row_by" s__law_row_by, dd "_law_known" s__law_known, dd "_law_same" s__law_same, dd "_law_draw" s__law_draw, dd "_law_of" s__law_of, dd "_law_plan" s__law_plan, dd "_law_row" s__law_row, dd "is_whole" s_is_whole, dd "is_sum_in" s_is_sum_in, dd "wrong_in_row" s_wrong_in_row, dd "check_row" s_check_row, dd "is_row_value" s_is_row_value, dd "without" s_without, dd "needless_in" s_needless_in, dd "needless" s_needless, dd "leaned_by" s_leaned_by, dd "leaned" s_leaned, dd "is_lean" s_is_lean, dd "_law_is_whole" s__law_is_whole, dd "_law_reasons" s__law_reasons, dd "_law_row_wrong" s__law_row_wrong, dd "_law_needless" s__law_needless, dd "_law_leaned" s__law_leaned, dd "made" s_made, dd "is_row" s_is_row, dd "_law_row_right" s__law_row_right, dd "_law_right" s__law_right, dd "_law_bowl" s__law_bowl, dd "law" s_law]
def fas : List He.Fa := [.glo "_law_row_by", .glo "_law_known", .glo "_law_same", .glo "_law_draw", .glo "_law_of", .glo "_law_plan", .glo "_law_row", .glo "is_whole", .glo "is_sum_in", .glo "wrong_in_row", .glo "check_row", .glo "is_row_value", .glo "without", .glo "needless_in", .glo "needless", .glo "leaned_by", .glo "leaned", .glo "is_lean", .glo "_law_is_whole", .glo "_law_reasons", .glo "_law_row_wrong", .glo "_law_needless", .glo "_law_leaned", .glo "made", .glo "is_row", .glo "_law_row_right", .glo "_law_right", .glo "_law_bowl", .glo "law", .free "abs", .free "all", .free "any", .free "bool", .free "divmod", .free "enumerate", .free "int", .free "isinstance", .free "len", .free "max", .free "min", .free "range", .free "set", .free "sorted", .free "str", .free "tuple", .int "MOST_ELEMENTS" 30]
structure T (K : PySem.W.Frag) (mg : Str → Option Value) : Prop where
  d : He.SaysD fas fns K
  h : ∃ h : Heap, K.In h ∧ h.Ns mainGlobals mg
section
variable {K : PySem.W.Frag} {mg : Str → Option Value} {P : Program} {w : World} {base : Heap}
theorem T.fact (t : T K mg) {f : He.Fa} (h : f ∈ fas) : f.ok K = true := by
  obtain ⟨i, hi⟩ := List.getElem?_of_mem h
  exact t.d.fact i hi
theorem T.gl (t : T K mg) {x : Str} (h : He.Fa.glo x ∈ fas := by simp [fas]) : mg x = some (.ref (He.ga K x)) := by
  obtain ⟨hp, X, G⟩ := t.h
  exact He.glo_ok X G (t.fact h)
theorem T.fr (t : T K mg) {x : Str} (h : He.Fa.free x ∈ fas := by simp [fas]) : mg x = none := by
  obtain ⟨hp, X, G⟩ := t.h
  exact He.free_ok X G (t.fact h)
theorem T.ci (t : T K mg) {x : Str} {i : Int} (h : He.Fa.int x i ∈ fas := by simp [fas]) : ∃ t, mg x = some (.int i t) := by
  obtain ⟨hp, X, G⟩ := t.h
  exact He.int_ok X G (t.fact h)
theorem T.cs (t : T K mg) {x z : Str} (h : He.Fa.str x z ∈ fas := by simp [fas]) : ∃ t, mg x = some (.str z t) := by
  obtain ⟨hp, X, G⟩ := t.h
  exact He.str_ok X G (t.fact h)
theorem F__law_row_by (t : T K mg) : ∃ fd, FunD K "_law_row_by" "_law_row_by" (defArgs s__law_row_by) (defBody s__law_row_by) (defScope s__law_row_by) [] [] (He.ga K "_law_row_by") fd := t.d.def_ 0
theorem F__law_known (t : T K mg) : ∃ fd, FunD K "_law_known" "_law_known" (defArgs s__law_known) (defBody s__law_known) (defScope s__law_known) [] [] (He.ga K "_law_known") fd := t.d.def_ 1
theorem F__law_same (t : T K mg) : ∃ fd, FunD K "_law_same" "_law_same" (defArgs s__law_same) (defBody s__law_same) (defScope s__law_same) [] [] (He.ga K "_law_same") fd := t.d.def_ 2
theorem F__law_draw (t : T K mg) : ∃ fd, FunD K "_law_draw" "_law_draw" (defArgs s__law_draw) (defBody s__law_draw) (defScope s__law_draw) [] [] (He.ga K "_law_draw") fd := t.d.def_ 3
theorem F__law_of (t : T K mg) : ∃ fd, FunD K "_law_of" "_law_of" (defArgs s__law_of) (defBody s__law_of) (defScope s__law_of) [] [] (He.ga K "_law_of") fd := t.d.def_ 4
theorem F__law_plan (t : T K mg) : ∃ fd, FunD K "_law_plan" "_law_plan" (defArgs s__law_plan) (defBody s__law_plan) (defScope s__law_plan) [] [] (He.ga K "_law_plan") fd := t.d.def_ 5
theorem F__law_row (t : T K mg) : ∃ fd, FunD K "_law_row" "_law_row" (defArgs s__law_row) (defBody s__law_row) (defScope s__law_row) [] [] (He.ga K "_law_row") fd := t.d.def_ 6
theorem F_is_whole (t : T K mg) : ∃ fd, FunD K "is_whole" "is_whole" (defArgs s_is_whole) (defBody s_is_whole) (defScope s_is_whole) [] [] (He.ga K "is_whole") fd := t.d.def_ 7
theorem F_is_sum_in (t : T K mg) : ∃ fd, FunD K "is_sum_in" "is_sum_in" (defArgs s_is_sum_in) (defBody s_is_sum_in) (defScope s_is_sum_in) [] [] (He.ga K "is_sum_in") fd := t.d.def_ 8
theorem F_wrong_in_row (t : T K mg) : ∃ fd, FunD K "wrong_in_row" "wrong_in_row" (defArgs s_wrong_in_row) (defBody s_wrong_in_row) (defScope s_wrong_in_row) [] [] (He.ga K "wrong_in_row") fd := t.d.def_ 9
theorem F_check_row (t : T K mg) : ∃ fd, FunD K "check_row" "check_row" (defArgs s_check_row) (defBody s_check_row) (defScope s_check_row) [] [] (He.ga K "check_row") fd := t.d.def_ 10
theorem F_is_row_value (t : T K mg) : ∃ fd, FunD K "is_row_value" "is_row_value" (defArgs s_is_row_value) (defBody s_is_row_value) (defScope s_is_row_value) [] [] (He.ga K "is_row_value") fd := t.d.def_ 11
theorem F_without (t : T K mg) : ∃ fd, FunD K "without" "without" (defArgs s_without) (defBody s_without) (defScope s_without) [] [] (He.ga K "without") fd := t.d.def_ 12
theorem F_needless_in (t : T K mg) : ∃ fd, FunD K "needless_in" "needless_in" (defArgs s_needless_in) (defBody s_needless_in) (defScope s_needless_in) [] [] (He.ga K "needless_in") fd := t.d.def_ 13
theorem F_needless (t : T K mg) : ∃ fd, FunD K "needless" "needless" (defArgs s_needless) (defBody s_needless) (defScope s_needless) [] [] (He.ga K "needless") fd := t.d.def_ 14
theorem F_leaned_by (t : T K mg) : ∃ fd, FunD K "leaned_by" "leaned_by" (defArgs s_leaned_by) (defBody s_leaned_by) (defScope s_leaned_by) [] [] (He.ga K "leaned_by") fd := t.d.def_ 15
theorem F_leaned (t : T K mg) : ∃ fd, FunD K "leaned" "leaned" (defArgs s_leaned) (defBody s_leaned) (defScope s_leaned) [] [] (He.ga K "leaned") fd := t.d.def_ 16
theorem F_is_lean (t : T K mg) : ∃ fd, FunD K "is_lean" "is_lean" (defArgs s_is_lean) (defBody s_is_lean) (defScope s_is_lean) [] [] (He.ga K "is_lean") fd := t.d.def_ 17
theorem F__law_is_whole (t : T K mg) : ∃ fd, FunD K "_law_is_whole" "_law_is_whole" (defArgs s__law_is_whole) (defBody s__law_is_whole) (defScope s__law_is_whole) [] [] (He.ga K "_law_is_whole") fd := t.d.def_ 18
theorem F__law_reasons (t : T K mg) : ∃ fd, FunD K "_law_reasons" "_law_reasons" (defArgs s__law_reasons) (defBody s__law_reasons) (defScope s__law_reasons) [] [] (He.ga K "_law_reasons") fd := t.d.def_ 19
theorem F__law_row_wrong (t : T K mg) : ∃ fd, FunD K "_law_row_wrong" "_law_row_wrong" (defArgs s__law_row_wrong) (defBody s__law_row_wrong) (defScope s__law_row_wrong) [] [] (He.ga K "_law_row_wrong") fd := t.d.def_ 20
theorem F__law_needless (t : T K mg) : ∃ fd, FunD K "_law_needless" "_law_needless" (defArgs s__law_needless) (defBody s__law_needless) (defScope s__law_needless) [] [] (He.ga K "_law_needless") fd := t.d.def_ 21
theorem F__law_leaned (t : T K mg) : ∃ fd, FunD K "_law_leaned" "_law_leaned" (defArgs s__law_leaned) (defBody s__law_leaned) (defScope s__law_leaned) [] [] (He.ga K "_law_leaned") fd := t.d.def_ 22
theorem F_made (t : T K mg) : ∃ fd, FunD K "made" "made" (defArgs s_made) (defBody s_made) (defScope s_made) [] [] (He.ga K "made") fd := t.d.def_ 23
theorem F_is_row (t : T K mg) : ∃ fd, FunD K "is_row" "is_row" (defArgs s_is_row) (defBody s_is_row) (defScope s_is_row) [] [] (He.ga K "is_row") fd := t.d.def_ 24
theorem F__law_row_right (t : T K mg) : ∃ fd, FunD K "_law_row_right" "_law_row_right" (defArgs s__law_row_right) (defBody s__law_row_right) (defScope s__law_row_right) [] [] (He.ga K "_law_row_right") fd := t.d.def_ 25
theorem F__law_right (t : T K mg) : ∃ fd, FunD K "_law_right" "_law_right" (defArgs s__law_right) (defBody s__law_right) (defScope s__law_right) [] [] (He.ga K "_law_right") fd := t.d.def_ 26
theorem F__law_bowl (t : T K mg) : ∃ fd, FunD K "_law_bowl" "_law_bowl" (defArgs s__law_bowl) (defBody s__law_bowl) (defScope s__law_bowl) [] [] (He.ga K "_law_bowl") fd := t.d.def_ 27
theorem F_law (t : T K mg) : ∃ fd, FunD K "law" "law" (defArgs s_law) (defBody s_law) (defScope s_law) [] [] (He.ga K "law") fd := t.d.def_ 28
theorem c__law_row_by (t : T K mg) : ∃ fd, FunD K "_law_row_by" "_law_row_by" (defArgs s__law_row_by) (defBody s__law_row_by) (defScope s__law_row_by) [] [] (He.ga K "_law_row_by") fd ∧ Cl P w K mg base "_law_row_by" 1 ["plan"] (He.ga K "_law_row_by") fd m__law_row_by := by
  obtain ⟨fd, F⟩ := F__law_row_by t
  refine ⟨fd, F, fn_ok F sc__law_row_by (fun cdv A outer s H E hr => ?_), t.gl, F.kp, F.bindsN fun _ _ _ _ _ _ us hl => match us, hl with | [_], _ => rfl, takes_fun⟩
  exact (pmss_cons (pms_set 1 (pm_tup (pma_cons pm_int pma_nil)) sc__law_row_by.nd)
    (pmss_cons (pms_for PassesOwn.never rfl (pmi_seq (pm_var 0)) (pmg_seq rfl (pmgs_cons (pmg_name 2 sc__law_row_by.nd) (pmgs_cons (pmg_name 3 sc__law_row_by.nd) pmgs_nil))) (pmss_one (pms_set 1 (pm_bin o_add (pm_var 1) (pm_tup (pma_cons (pm_bin o_add (pm_ix (pm_var 1) (pm_var 2)) (pm_ix (pm_var 1) (pm_var 3))) pma_nil))) sc__law_row_by.nd)))
    (pmss_one (pms_ret (pm_var 1)))))
theorem c__law_known (t : T K mg) : ∃ fd, FunD K "_law_known" "_law_known" (defArgs s__law_known) (defBody s__law_known) (defScope s__law_known) [] [] (He.ga K "_law_known") fd ∧ Cl P w K mg base "_law_known" 2 [] (He.ga K "_law_known") fd m__law_known := by
  obtain ⟨fd, F⟩ := F__law_known t
  obtain ⟨fd__law_row_by, G__law_row_by, C__law_row_by⟩ := c__law_row_by (P := P) (w := w) (base := base) t
  refine ⟨fd, F, fn_ok F sc__law_known (fun cdv A outer s H E hr => ?_), t.gl, F.kp, F.bindsN fun _ _ _ _ _ _ us hl => match us, hl with | [], _ => rfl, takes_fun⟩
  exact (pmss_cons (pms_set 0 (pm_c C__law_row_by (hr.mono (by decide)) (by rfl) (pma_cons (pm_ct o_tuple (by rfl) (t.fr (x := "tuple")) bt_tuple (pma_cons (pm_lc (own := [("k", 1)]) rfl sc__law_known.nd (pmi_range1 (by rfl) (t.fr (x := "range")) (pma_cons pm_int pma_nil)) (blkOk_by (by kernel_rfl)) (by decide) (fun _ _ _ _ _ => (pmg_name 1 sc__law_known.nd)) (fun _ _ _ _ _ => pmts_nil) (fun _ _ _ _ _ => (pm_tup (pma_cons (pm_var 1) (pma_cons (pm_var 1) pma_nil))))) pma_nil)) pma_nil)) sc__law_known.nd)
    (pmss_cons (pms_set 2 (pm_c C__law_row_by (hr.mono (by decide)) (by rfl) (pma_cons (pm_ct o_tuple (by rfl) (t.fr (x := "tuple")) bt_tuple (pma_cons (pm_lc (own := [("k", 1)]) rfl sc__law_known.nd (pmi_range1 (by rfl) (t.fr (x := "range")) (pma_cons pm_int pma_nil)) (blkOk_by (by kernel_rfl)) (by decide) (fun _ _ _ _ _ => (pmg_name 1 sc__law_known.nd)) (fun _ _ _ _ _ => pmts_nil) (fun _ _ _ _ _ => (pm_tup (pma_cons (pm_var 1) (pma_cons pm_int pma_nil))))) pma_nil)) pma_nil)) sc__law_known.nd)
    (pmss_one (pms_ret (pm_tup (pma_cons (pm_tup (pma_cons pm_int pma_nil)) (pma_cons (pm_tup (pma_cons pm_int (pma_cons pm_int pma_nil))) (pma_cons (pm_tup (pma_cons pm_int (pma_cons pm_int (pma_cons pm_int (pma_cons pm_int (pma_cons pm_int pma_nil)))))) (pma_cons (pm_tup (pma_cons pm_int (pma_cons pm_int (pma_cons pm_int (pma_cons pm_int pma_nil))))) (pma_cons (pm_tup (pma_cons pm_int (pma_cons pm_int (pma_cons pm_int (pma_cons pm_int (pma_cons pm_int (pma_cons pm_int pma_nil))))))) (pma_cons (pm_tup (pma_cons pm_int (pma_cons pm_int (pma_cons pm_int (pma_cons pm_int (pma_cons pm_int pma_nil)))))) (pma_cons (pm_tup (pma_cons pm_int (pma_cons pm_int (pma_cons pm_int (pma_cons pm_int (pma_cons pm_int (pma_cons pm_int (pma_cons pm_int pma_nil)))))))) (pma_cons (pm_var 0) (pma_cons (pm_var 2) (pma_cons (pm_tup (pma_cons pm_int (pma_cons pm_int (pma_cons pm_int (pma_cons pm_int (pma_cons pm_int (pma_cons pm_int (pma_cons pm_int (pma_cons pm_int pma_nil))))))))) (pma_cons (pm_tup (pma_cons pm_int (pma_cons pm_int (pma_cons pm_int (pma_cons pm_int (pma_cons pm_int (pma_cons pm_int pma_nil))))))) pma_nil))))))))))))))))
theorem c__law_same (t : T K mg) : ∀ n : Nat, ∃ fd, FunD K "_law_same" "_law_same" (defArgs s__law_same) (defBody s__law_same) (defScope s__law_same) [] [] (He.ga K "_law_same") fd ∧ Cl P w K mg base "_law_same" (0 + n) ["told", "due"] (He.ga K "_law_same") fd (m__law_same n)
  | 0 => by
    obtain ⟨fd, F⟩ := F__law_same t
    exact ⟨fd, F, fn_bad, t.gl, F.kp, F.bindsN fun _ _ _ _ _ _ us hl => match us, hl with | [_, _], _ => rfl, takes_bad⟩
  | n + 1 => by
    obtain ⟨fd, F⟩ := F__law_same t
    obtain ⟨fd__law_same, G__law_same, C__law_same⟩ := c__law_same t n
    refine ⟨fd, F, fn_ok F sc__law_same (fun cdv A outer s H E hr => ?_), t.gl, F.kp, F.bindsN fun _ _ _ _ _ _ us hl => match us, hl with | [_, _], _ => rfl, takes_fun⟩
    exact (pmss_cons (pms_if (pmt_w (pmw_or (pmt_tru (pm_isi it_tuple (by rfl) (t.fr (x := "isinstance")) (by rfl) (t.fr (x := "tuple")) bt_tuple (pm_var 1))) (pmw_or1 (pmt_tru (pm_isi it_tuple (by rfl) (t.fr (x := "isinstance")) (by rfl) (t.fr (x := "tuple")) bt_tuple (pm_var 0)))))) (pmss_cons (pms_if (pmt_w (pmw_or (pmt_not (pmt_tru (pm_isi it_tuple (by rfl) (t.fr (x := "isinstance")) (by rfl) (t.fr (x := "tuple")) bt_tuple (pm_var 1)))) (pmw_or (pmt_not (pmt_tru (pm_isi it_tuple (by rfl) (t.fr (x := "isinstance")) (by rfl) (t.fr (x := "tuple")) bt_tuple (pm_var 0)))) (pmw_or1 (pmt_cmp (o_ne (u64 hr)) (pm_cb o_len (by rfl) (t.fr (x := "len")) bt_len (pma_cons (pm_var 0) pma_nil)) (pm_cb o_len (by rfl) (t.fr (x := "len")) bt_len (pma_cons (pm_var 1) pma_nil))))))) (pmss_one (pms_ret pm_bl)) pmss_nil)
    (pmss_one (pms_ret (pm_cmp (o_eq (u64 hr)) (pm_lc (own := [("k", 2)]) rfl sc__law_same.nd (pmi_range1 (by rfl) (t.fr (x := "range")) (pma_cons (pm_cb o_len (by rfl) (t.fr (x := "len")) bt_len (pma_cons (pm_var 1) pma_nil)) pma_nil)) (blkOk_by (by kernel_rfl)) (by decide) (fun _ _ _ _ _ => (pmg_name 2 sc__law_same.nd)) (fun _ _ _ _ _ => (pmts_one (pmt_not (pmt_tru (pm_c C__law_same (hr.mono (Nat.le_refl _)) (by rfl) (pma_cons (pm_ix (pm_var 0) (pm_var 2)) (pma_cons (pm_ix (pm_var 1) (pm_var 2)) pma_nil))))))) (fun _ _ _ _ _ => (pm_var 2))) (pm_lst pma_nil))))) pmss_nil)
    (pmss_cons (pms_if (pmt_w (pmw_or (pmt_cmp o_is (pm_var 1) pm_non) (pmw_or1 (pmt_cmp o_is (pm_var 0) pm_non)))) (pmss_one (pms_ret (pm_and (pm_cmp o_is (pm_var 1) pm_non) (pm_one (pm_cmp o_is (pm_var 0) pm_non))))) pmss_nil)
    (pmss_cons (pms_if (pmt_w (pmw_or (pmt_cmp (o_ne (u64 hr)) (pm_isi it_bool (by rfl) (t.fr (x := "isinstance")) (by rfl) (t.fr (x := "bool")) bt_bool (pm_var 1)) (pm_isi it_bool (by rfl) (t.fr (x := "isinstance")) (by rfl) (t.fr (x := "bool")) bt_bool (pm_var 0))) (pmw_or (pmt_cmp (o_ne (u64 hr)) (pm_isi it_int (by rfl) (t.fr (x := "isinstance")) (by rfl) (t.fr (x := "int")) bt_int (pm_var 1)) (pm_isi it_int (by rfl) (t.fr (x := "isinstance")) (by rfl) (t.fr (x := "int")) bt_int (pm_var 0))) (pmw_or1 (pmt_cmp (o_ne (u64 hr)) (pm_isi it_str (by rfl) (t.fr (x := "isinstance")) (by rfl) (t.fr (x := "str")) bt_str (pm_var 1)) (pm_isi it_str (by rfl) (t.fr (x := "isinstance")) (by rfl) (t.fr (x := "str")) bt_str (pm_var 0))))))) (pmss_one (pms_ret pm_bl)) pmss_nil)
    (pmss_one (pms_ret (pm_cmp o_is (pm_cmp (o_eq (u64 hr)) (pm_var 0) (pm_var 1)) pm_bl))))))
theorem c__law_draw (t : T K mg) : ∃ fd, FunD K "_law_draw" "_law_draw" (defArgs s__law_draw) (defBody s__law_draw) (defScope s__law_draw) [] [] (He.ga K "_law_draw") fd ∧ Cl P w K mg base "_law_draw" 1 ["bowl", "many"] (He.ga K "_law_draw") fd m__law_draw := by
  obtain ⟨fd, F⟩ := F__law_draw t
  refine ⟨fd, F, fn_ok F sc__law_draw (fun cdv A outer s H E hr => ?_), t.gl, F.kp, F.bindsN fun _ _ _ _ _ _ us hl => match us, hl with | [_, _], _ => rfl, takes_fun⟩
  exact (pmss_cons (pms_if (pmt_cmp o_gt (pm_ix (pm_var 0) pm_int) pm_int) (pmss_cons (pms_asg (pm_cb o_divmod (by rfl) (t.fr (x := "divmod")) bt_divmod (pma_cons (pm_ix (pm_var 0) pm_int) (pma_cons (pm_var 1) pma_nil))) (pmg_seq rfl (pmgs_cons (pmg_sub (pm_var 0) pm_int) (pmgs_cons (pmg_name 2 sc__law_draw.nd) pmgs_nil))))
    (pmss_one (pms_ret (pm_var 2)))) pmss_nil)
    (pmss_cons (pms_asg (pm_bin o_mod (pm_ct o_int (by rfl) (t.fr (x := "int")) bt_int (pma_cons (pm_bin o_add (pm_bin o_mul (pm_ix (pm_var 0) pm_int) pm_int) pm_int) pma_nil)) pm_int) (pmg_sub (pm_var 0) pm_int))
    (pmss_cons (pms_asg (pm_bin o_mod (pm_ct o_int (by rfl) (t.fr (x := "int")) bt_int (pma_cons (pm_bin o_add (pm_bin o_mul (pm_ix (pm_var 0) pm_int) pm_int) (pm_bin o_fdiv (pm_ix (pm_var 0) pm_int) pm_int)) pma_nil)) pm_int) (pmg_sub (pm_var 0) pm_int))
    (pmss_one (pms_ret (pm_bin o_mod (pm_ct o_int (by rfl) (t.fr (x := "int")) bt_int (pma_cons (pm_bin o_fdiv (pm_ix (pm_var 0) pm_int) pm_int) pma_nil)) (pm_var 1)))))))
theorem c__law_of (t : T K mg) : ∃ fd, FunD K "_law_of" "_law_of" (defArgs s__law_of) (defBody s__law_of) (defScope s__law_of) [] [] (He.ga K "_law_of") fd ∧ Cl P w K mg base "_law_of" 2 ["bowl", "some"] (He.ga K "_law_of") fd m__law_of := by
  obtain ⟨fd, F⟩ := F__law_of t
  obtain ⟨fd__law_draw, G__law_draw, C__law_draw⟩ := c__law_draw (P := P) (w := w) (base := base) t
  refine ⟨fd, F, fn_ok F sc__law_of (fun cdv A outer s H E hr => ?_), t.gl, F.kp, F.bindsN fun _ _ _ _ _ _ us hl => match us, hl with | [_, _], _ => rfl, takes_fun⟩
  exact (pmss_one (pms_ret (pm_ix (pm_var 1) (pm_c C__law_draw (hr.mono (by decide)) (by rfl) (pma_cons (pm_var 0) (pma_cons (pm_cb o_len (by rfl) (t.fr (x := "len")) bt_len (pma_cons (pm_var 1) pma_nil)) pma_nil))))))
theorem c__law_plan (t : T K mg) : ∃ fd, FunD K "_law_plan" "_law_plan" (defArgs s__law_plan) (defBody s__law_plan) (defScope s__law_plan) [] [] (He.ga K "_law_plan") fd ∧ Cl P w K mg base "_law_plan" 3 ["bowl", "most"] (He.ga K "_law_plan") fd m__law_plan := by
  obtain ⟨fd, F⟩ := F__law_plan t
  obtain ⟨fd__law_draw, G__law_draw, C__law_draw⟩ := c__law_draw (P := P) (w := w) (base := base) t
  obtain ⟨fd__law_of, G__law_of, C__law_of⟩ := c__law_of (P := P) (w := w) (base := base) t
  refine ⟨fd, F, fn_ok F sc__law_plan (fun cdv A outer s H E hr => ?_), t.gl, F.kp, F.bindsN fun _ _ _ _ _ _ us hl => match us, hl with | [_, _], _ => rfl, takes_fun⟩
  exact (pmss_cons (pms_asg (pm_tup (pma_cons (pm_c C__law_draw (hr.mono (by decide)) (by rfl) (pma_cons (pm_var 0) (pma_cons pm_int pma_nil))) (pma_cons (pm_tup pma_nil) (pma_cons (pm_tup (pma_cons pm_int pma_nil)) pma_nil)))) (pmg_seq rfl (pmgs_cons (pmg_name 2 sc__law_plan.nd) (pmgs_cons (pmg_name 3 sc__law_plan.nd) (pmgs_cons (pmg_name 4 sc__law_plan.nd) pmgs_nil)))))
    (pmss_cons (pms_for PassesOwn.never rfl (pmi_range1 (by rfl) (t.fr (x := "range")) (pma_cons (pm_c C__law_draw (hr.mono (by decide)) (by rfl) (pma_cons (pm_var 0) (pma_cons (pm_bin o_add (pm_var 1) pm_int) pma_nil))) pma_nil)) (pmg_name 5 sc__law_plan.nd) (pmss_cons (pms_set 6 (pm_lst pma_nil) sc__law_plan.nd)
    (pmss_cons (pms_for PassesOwn.never rfl (pmi_range2 (by rfl) (t.fr (x := "range")) (pma_cons (pm_cb (o_max2 rfl) (by rfl) (t.fr (x := "max")) bt_max (pma_cons pm_int (pma_cons (pm_bin o_sub (pm_cb o_len (by rfl) (t.fr (x := "len")) bt_len (pma_cons (pm_var 4) pma_nil)) pm_int) pma_nil))) (pma_cons (pm_cb o_len (by rfl) (t.fr (x := "len")) bt_len (pma_cons (pm_var 4) pma_nil)) pma_nil))) (pmg_name 7 sc__law_plan.nd) (pmss_one (pms_set 6 (pm_bin o_add (pm_var 6) (pm_lc (own := [("j", 8)]) rfl sc__law_plan.nd (pmi_range1 (by rfl) (t.fr (x := "range")) (pma_cons (pm_bin o_add (pm_var 7) pm_int) pma_nil)) (blkOk_by (by kernel_rfl)) (by decide) (fun _ _ _ _ _ => (pmg_name 8 sc__law_plan.nd)) (fun _ _ _ _ _ => (pmts_one (pmt_cmp o_gt (pm_bin o_add (pm_ix (pm_var 4) (pm_var 7)) (pm_ix (pm_var 4) (pm_var 8))) (pm_ix (pm_var 4) (pm_un o_neg pm_int))))) (fun _ _ _ _ _ => (pm_tup (pma_cons (pm_var 7) (pma_cons (pm_var 8) pma_nil)))))) sc__law_plan.nd)))
    (pmss_cons (pms_set 6 (pm_if (pmt_cmp (o_in (u65 hr)) (pm_var 2) (pm_tup (pma_cons pm_int (pma_cons pm_int pma_nil)))) (pm_lc (own := [("pair", 9)]) rfl sc__law_plan.nd (pmi_seq (pm_var 6)) (blkOk_by (by kernel_rfl)) (by decide) (fun _ _ _ _ _ => (pmg_name 9 sc__law_plan.nd)) (fun _ _ _ _ _ => (pmts_one (pmt_cmp (o_eq (u64 hr)) (pm_ix (pm_var 9) pm_int) (pm_var 5)))) (fun _ _ _ _ _ => (pm_var 9))) (pm_var 6)) sc__law_plan.nd)
    (pmss_cons (pms_set 9 (pm_c C__law_of (hr.mono (by decide)) (by rfl) (pma_cons (pm_var 0) (pma_cons (pm_var 6) pma_nil))) sc__law_plan.nd)
    (pmss_cons (pms_if (pmt_w (pmw_or (pmt_w (pmw_and (pmt_cmp (o_eq (u64 hr)) (pm_var 2) pm_int) (pmw_and1 (pmt_cmp o_gt (pm_c C__law_draw (hr.mono (by decide)) (by rfl) (pma_cons (pm_var 0) (pma_cons pm_int pma_nil))) pm_int)))) (pmw_or1 (pmt_cmp (o_eq (u64 hr)) (pm_var 2) pm_int)))) (pmss_one (pms_set 9 (pm_tup (pma_cons (pm_var 5) (pma_cons (pm_var 5) pma_nil))) sc__law_plan.nd)) pmss_nil)
    (pmss_cons (pms_if (pmt_cmp (o_eq (u64 hr)) (pm_var 2) pm_int) (pmss_one (pms_set 9 (pm_sl (pm_cb (o_minL rfl (u65 hr)) (by rfl) (t.fr (x := "min")) bt_min (pma_cons (pm_lc (own := [("i", 7), ("j", 8)]) rfl sc__law_plan.nd (pmi_seq (pm_var 6)) (blkOk_by (by kernel_rfl)) (by decide) (fun _ _ _ _ _ => (pmg_seq rfl (pmgs_cons (pmg_name 7 sc__law_plan.nd) (pmgs_cons (pmg_name 8 sc__law_plan.nd) pmgs_nil)))) (fun _ _ _ _ _ => pmts_nil) (fun _ _ _ _ _ => (pm_tup (pma_cons (pm_bin o_add (pm_ix (pm_var 4) (pm_var 7)) (pm_ix (pm_var 4) (pm_var 8))) (pma_cons (pm_var 7) (pma_cons (pm_var 8) pma_nil)))))) pma_nil)) (pmo_some pm_int) pmo_none) sc__law_plan.nd)) pmss_nil)
    (pmss_one (pms_asg (pm_tup (pma_cons (pm_bin o_add (pm_var 3) (pm_tup (pma_cons (pm_var 9) pma_nil))) (pma_cons (pm_bin o_add (pm_var 4) (pm_tup (pma_cons (pm_bin o_add (pm_ix (pm_var 4) (pm_ix (pm_var 9) pm_int)) (pm_ix (pm_var 4) (pm_ix (pm_var 9) pm_int))) pma_nil))) pma_nil))) (pmg_seq rfl (pmgs_cons (pmg_name 3 sc__law_plan.nd) (pmgs_cons (pmg_name 4 sc__law_plan.nd) pmgs_nil))))))))))))
    (pmss_one (pms_ret (pm_var 3)))))
theorem c__law_row (t : T K mg) : ∃ fd, FunD K "_law_row" "_law_row" (defArgs s__law_row) (defBody s__law_row) (defScope s__law_row) [] [] (He.ga K "_law_row") fd ∧ Cl P w K mg base "_law_row" 4 ["bowl", "most"] (He.ga K "_law_row") fd m__law_row := by
  obtain ⟨fd, F⟩ := F__law_row t
  obtain ⟨fd__law_row_by, G__law_row_by, C__law_row_by⟩ := c__law_row_by (P := P) (w := w) (base := base) t
  obtain ⟨fd__law_plan, G__law_plan, C__law_plan⟩ := c__law_plan (P := P) (w := w) (base := base) t
  refine ⟨fd, F, fn_ok F sc__law_row (fun cdv A outer s H E hr => ?_), t.gl, F.kp, F.bindsN fun _ _ _ _ _ _ us hl => match us, hl with | [_, _], _ => rfl, takes_fun⟩
  exact (pmss_one (pms_ret (pm_c C__law_row_by (hr.mono (by decide)) (by rfl) (pma_cons (pm_c C__law_plan (hr.mono (by decide)) (by rfl) (pma_cons (pm_var 0) (pma_cons (pm_var 1) pma_nil))) pma_nil))))
theorem c_is_whole (t : T K mg) : ∃ fd, FunD K "is_whole" "is_whole" (defArgs s_is_whole) (defBody s_is_whole) (defScope s_is_whole) [] [] (He.ga K "is_whole") fd ∧ Cl P w K mg base "is_whole" 1 ["value"] (He.ga K "is_whole") fd m_is_whole := by
  obtain ⟨fd, F⟩ := F_is_whole t
  refine ⟨fd, F, fn_ok F sc_is_whole (fun cdv A outer s H E hr => ?_), t.gl, F.kp, F.bindsN fun _ _ _ _ _ _ us hl => match us, hl with | [_], _ => rfl, takes_fun⟩
  exact (pmss_one (pms_ret (pm_and (pm_isi it_int (by rfl) (t.fr (x := "isinstance")) (by rfl) (t.fr (x := "int")) bt_int (pm_var 0)) (pm_one (pm_not (pm_isi it_bool (by rfl) (t.fr (x := "isinstance")) (by rfl) (t.fr (x := "bool")) bt_bool (pm_var 0)))))))
theorem c_is_sum_in (t : T K mg) : ∃ fd, FunD K "is_sum_in" "is_sum_in" (defArgs s_is_sum_in) (defBody s_is_sum_in) (defScope s_is_sum_in) [] [] (He.ga K "is_sum_in") fd ∧ Cl P w K mg base "is_sum_in" 1 ["row", "number"] (He.ga K "is_sum_in") fd m_is_sum_in := by
  obtain ⟨fd, F⟩ := F_is_sum_in t
  refine ⟨fd, F, fn_ok F sc_is_sum_in (fun cdv A outer s H E hr => ?_), t.gl, F.kp, F.bindsN fun _ _ _ _ _ _ us hl => match us, hl with | [_, _], _ => rfl, takes_fun⟩
  exact (pmss_one (pms_ret (pm_cb (o_any rfl) (by rfl) (t.fr (x := "any")) bt_any (pma_cons (pm_lc (own := [("each", 2)]) rfl sc_is_sum_in.nd (pmi_seq (pm_var 0)) (blkOk_by (by kernel_rfl)) (by decide) (fun _ _ _ _ _ => (pmg_name 2 sc_is_sum_in.nd)) (fun _ _ _ _ _ => pmts_nil) (fun _ _ _ _ _ => (pm_cmp (o_in (u65 hr)) (pm_bin o_sub (pm_var 1) (pm_var 2)) (pm_var 0)))) pma_nil))))
theorem c_wrong_in_row (t : T K mg) : ∃ fd, FunD K "wrong_in_row" "wrong_in_row" (defArgs s_wrong_in_row) (defBody s_wrong_in_row) (defScope s_wrong_in_row) [] [] (He.ga K "wrong_in_row") fd ∧ Cl P w K mg base "wrong_in_row" 2 ["value"] (He.ga K "wrong_in_row") fd m_wrong_in_row := by
  obtain ⟨fd, F⟩ := F_wrong_in_row t
  obtain ⟨fd_is_whole, G_is_whole, C_is_whole⟩ := c_is_whole (P := P) (w := w) (base := base) t
  obtain ⟨fd_is_sum_in, G_is_sum_in, C_is_sum_in⟩ := c_is_sum_in (P := P) (w := w) (base := base) t
  refine ⟨fd, F, fn_ok F sc_wrong_in_row (fun cdv A outer s H E hr => ?_), t.gl, F.kp, F.bindsN fun _ _ _ _ _ _ us hl => match us, hl with | [_], _ => rfl, takes_fun⟩
  exact (pmss_cons (pms_if (pmt_w (pmw_or (pmt_not (pmt_tru (pm_isi it_tuple (by rfl) (t.fr (x := "isinstance")) (by rfl) (t.fr (x := "tuple")) bt_tuple (pm_var 0)))) (pmw_or1 (pmt_cmp (o_eq (u64 hr)) (pm_var 0) (pm_tup pma_nil))))) (pmss_one (pms_ret (pm_lst (pma_cons pm_non pma_nil)))) pmss_nil)
    (pmss_cons (pms_for PassesOwn.never rfl (pmi_enum (by rfl) (t.fr (x := "enumerate")) (pm_var 0)) (pmg_seq rfl (pmgs_cons (pmg_name 1 sc_wrong_in_row.nd) (pmgs_cons (pmg_name 2 sc_wrong_in_row.nd) pmgs_nil))) (pmss_cons (pms_if (pmt_w (pmw_or (pmt_cmp (o_eq (u64 hr)) (pm_var 1) (pm_gint (by rfl) (t.ci (x := "MOST_ELEMENTS") (i := 30)))) (pmw_or1 (pmt_not (pmt_tru (pm_c C_is_whole (hr.mono (by decide)) (by rfl) (pma_cons (pm_var 2) pma_nil))))))) (pmss_one (pms_ret (pm_lst (pma_cons (pm_var 1) pma_nil)))) pmss_nil)
    (pmss_cons (pms_if (pmt_w (pmw_and (pmt_cmp (o_eq (u64 hr)) (pm_var 1) pm_int) (pmw_and1 (pmt_cmp (o_ne (u64 hr)) (pm_var 2) pm_int)))) (pmss_one (pms_ret (pm_lst (pma_cons (pm_var 1) pma_nil)))) pmss_nil)
    (pmss_one (pms_if (pmt_w (pmw_and (pmt_cmp o_gt (pm_var 1) pm_int) (pmw_and1 (pmt_w (pmw_or (pmt_cmp o_le (pm_var 2) (pm_ix (pm_var 0) (pm_bin o_sub (pm_var 1) pm_int))) (pmw_or1 (pmt_not (pmt_tru (pm_c C_is_sum_in (hr.mono (by decide)) (by rfl) (pma_cons (pm_sl (pm_var 0) pmo_none (pmo_some (pm_var 1))) (pma_cons (pm_var 2) pma_nil))))))))))) (pmss_one (pms_ret (pm_lst (pma_cons (pm_var 1) pma_nil)))) pmss_nil)))))
    (pmss_one (pms_ret (pm_lst pma_nil)))))
theorem c_check_row (t : T K mg) : ∃ fd, FunD K "check_row" "check_row" (defArgs s_check_row) (defBody s_check_row) (defScope s_check_row) [] [] (He.ga K "check_row") fd ∧ Cl P w K mg base "check_row" 3 ["row"] (He.ga K "check_row") fd m_check_row := by
  obtain ⟨fd, F⟩ := F_check_row t
  obtain ⟨fd_wrong_in_row, G_wrong_in_row, C_wrong_in_row⟩ := c_wrong_in_row (P := P) (w := w) (base := base) t
  refine ⟨fd, F, fn_ok F sc_check_row (fun cdv A outer s H E hr => ?_), t.gl, F.kp, F.bindsN fun _ _ _ _ _ _ us hl => match us, hl with | [_], _ => rfl, takes_fun⟩
  exact (pmss_one (pms_for PassesOwn.never rfl (pmi_seq (pm_c C_wrong_in_row (hr.mono (by decide)) (by rfl) (pma_cons (pm_var 0) pma_nil))) (pmg_name 1 sc_check_row.nd) (pmss_one pms_never)))
theorem c_is_row_value (t : T K mg) : ∃ fd, FunD K "is_row_value" "is_row_value" (defArgs s_is_row_value) (defBody s_is_row_value) (defScope s_is_row_value) [] [] (He.ga K "is_row_value") fd ∧ Cl P w K mg base "is_row_value" 3 ["value"] (He.ga K "is_row_value") fd m_is_row_value := by
  obtain ⟨fd, F⟩ := F_is_row_value t
  obtain ⟨fd_wrong_in_row, G_wrong_in_row, C_wrong_in_row⟩ := c_wrong_in_row (P := P) (w := w) (base := base) t
  refine ⟨fd, F, fn_ok F sc_is_row_value (fun cdv A outer s H E hr => ?_), t.gl, F.kp, F.bindsN fun _ _ _ _ _ _ us hl => match us, hl with | [_], _ => rfl, takes_fun⟩
  exact (pmss_one (pms_ret (pm_cmp (o_eq (u64 hr)) (pm_c C_wrong_in_row (hr.mono (by decide)) (by rfl) (pma_cons (pm_var 0) pma_nil)) (pm_lst pma_nil))))
theorem c_without (t : T K mg) : ∃ fd, FunD K "without" "without" (defArgs s_without) (defBody s_without) (defScope s_without) [] [] (He.ga K "without") fd ∧ Cl P w K mg base "without" 1 ["row", "index"] (He.ga K "without") fd m_without := by
  obtain ⟨fd, F⟩ := F_without t
  refine ⟨fd, F, fn_ok F sc_without (fun cdv A outer s H E hr => ?_), t.gl, F.kp, F.bindsN fun _ _ _ _ _ _ us hl => match us, hl with | [_, _], _ => rfl, takes_fun⟩
  exact (pmss_one (pms_ret (pm_bin o_add (pm_sl (pm_var 0) pmo_none (pmo_some (pm_var 1))) (pm_sl (pm_var 0) (pmo_some (pm_bin o_add (pm_var 1) pm_int)) pmo_none))))
theorem c_needless_in (t : T K mg) : ∃ fd, FunD K "needless_in" "needless_in" (defArgs s_needless_in) (defBody s_needless_in) (defScope s_needless_in) [] [] (He.ga K "needless_in") fd ∧ Cl P w K mg base "needless_in" 4 ["row"] (He.ga K "needless_in") fd m_needless_in := by
  obtain ⟨fd, F⟩ := F_needless_in t
  obtain ⟨fd_is_row_value, G_is_row_value, C_is_row_value⟩ := c_is_row_value (P := P) (w := w) (base := base) t
  obtain ⟨fd_without, G_without, C_without⟩ := c_without (P := P) (w := w) (base := base) t
  refine ⟨fd, F, fn_ok F sc_needless_in (fun cdv A outer s H E hr => ?_), t.gl, F.kp, F.bindsN fun _ _ _ _ _ _ us hl => match us, hl with | [_], _ => rfl, takes_fun⟩
  exact (pmss_one (pms_ret (pm_lc (own := [("index", 1)]) rfl sc_needless_in.nd (pmi_range2 (by rfl) (t.fr (x := "range")) (pma_cons pm_int (pma_cons (pm_bin o_sub (pm_cb o_len (by rfl) (t.fr (x := "len")) bt_len (pma_cons (pm_var 0) pma_nil)) pm_int) pma_nil))) (blkOk_by (by kernel_rfl)) (by decide) (fun _ _ _ _ _ => (pmg_name 1 sc_needless_in.nd)) (fun _ _ _ _ _ => (pmts_one (pmt_tru (pm_c C_is_row_value (hr.mono (by decide)) (by rfl) (pma_cons (pm_c C_without (hr.mono (by decide)) (by rfl) (pma_cons (pm_var 0) (pma_cons (pm_var 1) pma_nil))) pma_nil))))) (fun _ _ _ _ _ => (pm_var 1)))))
theorem c_needless (t : T K mg) : ∃ fd, FunD K "needless" "needless" (defArgs s_needless) (defBody s_needless) (defScope s_needless) [] [] (He.ga K "needless") fd ∧ Cl P w K mg base "needless" 5 ["row"] (He.ga K "needless") fd m_needless := by
  obtain ⟨fd, F⟩ := F_needless t
  obtain ⟨fd_check_row, G_check_row, C_check_row⟩ := c_check_row (P := P) (w := w) (base := base) t
  obtain ⟨fd_needless_in, G_needless_in, C_needless_in⟩ := c_needless_in (P := P) (w := w) (base := base) t
  refine ⟨fd, F, fn_ok F sc_needless (fun cdv A outer s H E hr => ?_), t.gl, F.kp, F.bindsN fun _ _ _ _ _ _ us hl => match us, hl with | [_], _ => rfl, takes_fun⟩
  exact (pmss_cons (pms_expr (pm_c C_check_row (hr.mono (by decide)) (by rfl) (pma_cons (pm_var 0) pma_nil)))
    (pmss_one (pms_ret (pm_ct o_tuple (by rfl) (t.fr (x := "tuple")) bt_tuple (pma_cons (pm_c C_needless_in (hr.mono (by decide)) (by rfl) (pma_cons (pm_var 0) pma_nil)) pma_nil)))))
theorem c_leaned_by (t : T K mg) : ∃ fd, FunD K "leaned_by" "leaned_by" (defArgs s_leaned_by) (defBody s_leaned_by) (defScope s_leaned_by) [] [] (He.ga K "leaned_by") fd ∧ Cl P w K mg base "leaned_by" 5 ["row"] (He.ga K "leaned_by") fd m_leaned_by := by
  obtain ⟨fd, F⟩ := F_leaned_by t
  obtain ⟨fd_needless_in, G_needless_in, C_needless_in⟩ := c_needless_in (P := P) (w := w) (base := base) t
  obtain ⟨fd_without, G_without, C_without⟩ := c_without (P := P) (w := w) (base := base) t
  refine ⟨fd, F, fn_ok F sc_leaned_by (fun cdv A outer s H E hr => ?_), t.gl, F.kp, F.bindsN fun _ _ _ _ _ _ us hl => match us, hl with | [_], _ => rfl, takes_fun⟩
  exact (pmss_cons (pms_set 1 (pm_c C_needless_in (hr.mono (by decide)) (by rfl) (pma_cons (pm_var 0) pma_nil)) sc_leaned_by.nd)
    (pmss_cons (pms_while 100000 PassesOwn.never (pmt_cmp (o_ne (u64 hr)) (pm_var 1) (pm_lst pma_nil)) (pmss_cons (pms_set 0 (pm_c C_without (hr.mono (by decide)) (by rfl) (pma_cons (pm_var 0) (pma_cons (pm_ix (pm_var 1) pm_int) pma_nil))) sc_leaned_by.nd)
    (pmss_one (pms_set 1 (pm_c C_needless_in (hr.mono (by decide)) (by rfl) (pma_cons (pm_var 0) pma_nil)) sc_leaned_by.nd))))
    (pmss_one (pms_ret (pm_var 0)))))
theorem c_leaned (t : T K mg) : ∃ fd, FunD K "leaned" "leaned" (defArgs s_leaned) (defBody s_leaned) (defScope s_leaned) [] [] (He.ga K "leaned") fd ∧ Cl P w K mg base "leaned" 6 ["row"] (He.ga K "leaned") fd m_leaned := by
  obtain ⟨fd, F⟩ := F_leaned t
  obtain ⟨fd_check_row, G_check_row, C_check_row⟩ := c_check_row (P := P) (w := w) (base := base) t
  obtain ⟨fd_leaned_by, G_leaned_by, C_leaned_by⟩ := c_leaned_by (P := P) (w := w) (base := base) t
  refine ⟨fd, F, fn_ok F sc_leaned (fun cdv A outer s H E hr => ?_), t.gl, F.kp, F.bindsN fun _ _ _ _ _ _ us hl => match us, hl with | [_], _ => rfl, takes_fun⟩
  exact (pmss_cons (pms_expr (pm_c C_check_row (hr.mono (by decide)) (by rfl) (pma_cons (pm_var 0) pma_nil)))
    (pmss_one (pms_ret (pm_c C_leaned_by (hr.mono (by decide)) (by rfl) (pma_cons (pm_var 0) pma_nil)))))
theorem c_is_lean (t : T K mg) : ∃ fd, FunD K "is_lean" "is_lean" (defArgs s_is_lean) (defBody s_is_lean) (defScope s_is_lean) [] [] (He.ga K "is_lean") fd ∧ Cl P w K mg base "is_lean" 6 ["row"] (He.ga K "is_lean") fd m_is_lean := by
  obtain ⟨fd, F⟩ := F_is_lean t
  obtain ⟨fd_needless, G_needless, C_needless⟩ := c_needless (P := P) (w := w) (base := base) t
  refine ⟨fd, F, fn_ok F sc_is_lean (fun cdv A outer s H E hr => ?_), t.gl, F.kp, F.bindsN fun _ _ _ _ _ _ us hl => match us, hl with | [_], _ => rfl, takes_fun⟩
  exact (pmss_one (pms_ret (pm_cmp (o_eq (u64 hr)) (pm_c C_needless (hr.mono (by decide)) (by rfl) (pma_cons (pm_var 0) pma_nil)) (pm_tup pma_nil))))
theorem c__law_is_whole (t : T K mg) : ∃ fd, FunD K "_law_is_whole" "_law_is_whole" (defArgs s__law_is_whole) (defBody s__law_is_whole) (defScope s__law_is_whole) [] [] (He.ga K "_law_is_whole") fd ∧ Cl P w K mg base "_law_is_whole" 1 ["value"] (He.ga K "_law_is_whole") fd m__law_is_whole := by
  obtain ⟨fd, F⟩ := F__law_is_whole t
  refine ⟨fd, F, fn_ok F sc__law_is_whole (fun cdv A outer s H E hr => ?_), t.gl, F.kp, F.bindsN fun _ _ _ _ _ _ us hl => match us, hl with | [_], _ => rfl, takes_fun⟩
  exact (pmss_one (pms_ret (pm_and (pm_isi it_int (by rfl) (t.fr (x := "isinstance")) (by rfl) (t.fr (x := "int")) bt_int (pm_var 0)) (pm_one (pm_not (pm_isi it_bool (by rfl) (t.fr (x := "isinstance")) (by rfl) (t.fr (x := "bool")) bt_bool (pm_var 0)))))))
theorem c__law_reasons (t : T K mg) : ∃ fd, FunD K "_law_reasons" "_law_reasons" (defArgs s__law_reasons) (defBody s__law_reasons) (defScope s__law_reasons) [] [] (He.ga K "_law_reasons") fd ∧ Cl P w K mg base "_law_reasons" 1 ["row", "at"] (He.ga K "_law_reasons") fd m__law_reasons := by
  obtain ⟨fd, F⟩ := F__law_reasons t
  refine ⟨fd, F, fn_ok F sc__law_reasons (fun cdv A outer s H E hr => ?_), t.gl, F.kp, F.bindsN fun _ _ _ _ _ _ us hl => match us, hl with | [_, _], _ => rfl, takes_fun⟩
  exact (pmss_cons (pms_set 2 (pm_lst pma_nil) sc__law_reasons.nd)
    (pmss_cons (pms_for PassesOwn.never rfl (pmi_range1 (by rfl) (t.fr (x := "range")) (pma_cons (pm_var 1) pma_nil)) (pmg_name 3 sc__law_reasons.nd) (pmss_one (pms_set 2 (pm_bin o_add (pm_var 2) (pm_lc (own := [("j", 4)]) rfl sc__law_reasons.nd (pmi_range1 (by rfl) (t.fr (x := "range")) (pma_cons (pm_bin o_add (pm_var 3) pm_int) pma_nil)) (blkOk_by (by kernel_rfl)) (by decide) (fun _ _ _ _ _ => (pmg_name 4 sc__law_reasons.nd)) (fun _ _ _ _ _ => (pmts_one (pmt_cmp (o_eq (u64 hr)) (pm_bin o_add (pm_ix (pm_var 0) (pm_var 3)) (pm_ix (pm_var 0) (pm_var 4))) (pm_ix (pm_var 0) (pm_var 1))))) (fun _ _ _ _ _ => (pm_tup (pma_cons (pm_var 3) (pma_cons (pm_var 4) pma_nil)))))) sc__law_reasons.nd)))
    (pmss_one (pms_ret (pm_ct o_tuple (by rfl) (t.fr (x := "tuple")) bt_tuple (pma_cons (pm_var 2) pma_nil))))))
theorem c__law_row_wrong (t : T K mg) : ∃ fd, FunD K "_law_row_wrong" "_law_row_wrong" (defArgs s__law_row_wrong) (defBody s__law_row_wrong) (defScope s__law_row_wrong) [] [] (He.ga K "_law_row_wrong") fd ∧ Cl P w K mg base "_law_row_wrong" 2 ["value"] (He.ga K "_law_row_wrong") fd m__law_row_wrong := by
  obtain ⟨fd, F⟩ := F__law_row_wrong t
  obtain ⟨fd__law_is_whole, G__law_is_whole, C__law_is_whole⟩ := c__law_is_whole (P := P) (w := w) (base := base) t
  obtain ⟨fd__law_reasons, G__law_reasons, C__law_reasons⟩ := c__law_reasons (P := P) (w := w) (base := base) t
  refine ⟨fd, F, fn_ok F sc__law_row_wrong (fun cdv A outer s H E hr => ?_), t.gl, F.kp, F.bindsN fun _ _ _ _ _ _ us hl => match us, hl with | [_], _ => rfl, takes_fun⟩
  exact (pmss_cons (pms_if (pmt_w (pmw_or (pmt_not (pmt_tru (pm_isi it_tuple (by rfl) (t.fr (x := "isinstance")) (by rfl) (t.fr (x := "tuple")) bt_tuple (pm_var 0)))) (pmw_or1 (pmt_cmp (o_eq (u64 hr)) (pm_var 0) (pm_tup pma_nil))))) (pmss_one (pms_ret pm_non)) pmss_nil)
    (pmss_cons (pms_for PassesOwn.never rfl (pmi_range1 (by rfl) (t.fr (x := "range")) (pma_cons (pm_cb o_len (by rfl) (t.fr (x := "len")) bt_len (pma_cons (pm_var 0) pma_nil)) pma_nil)) (pmg_name 1 sc__law_row_wrong.nd) (pmss_one (pms_if (pmt_w (pmw_or (pmt_cmp (o_eq (u64 hr)) (pm_var 1) pm_int) (pmw_or (pmt_not (pmt_tru (pm_c C__law_is_whole (hr.mono (by decide)) (by rfl) (pma_cons (pm_ix (pm_var 0) (pm_var 1)) pma_nil)))) (pmw_or (pmt_w (pmw_and (pmt_cmp (o_eq (u64 hr)) (pm_var 1) pm_int) (pmw_and1 (pmt_cmp (o_ne (u64 hr)) (pm_ix (pm_var 0) (pm_var 1)) pm_int)))) (pmw_or1 (pmt_w (pmw_and (pmt_cmp o_gt (pm_var 1) pm_int) (pmw_and1 (pmt_w (pmw_or (pmt_cmp o_le (pm_ix (pm_var 0) (pm_var 1)) (pm_ix (pm_var 0) (pm_bin o_sub (pm_var 1) pm_int))) (pmw_or1 (pmt_cmp (o_eq (u64 hr)) (pm_c C__law_reasons (hr.mono (by decide)) (by rfl) (pma_cons (pm_var 0) (pma_cons (pm_var 1) pma_nil))) (pm_tup pma_nil))))))))))))) (pmss_one (pms_ret (pm_var 1))) pmss_nil)))
    (pmss_one (pms_ret pm_str))))
theorem c__law_needless (t : T K mg) : ∃ fd, FunD K "_law_needless" "_law_needless" (defArgs s__law_needless) (defBody s__law_needless) (defScope s__law_needless) [] [] (He.ga K "_law_needless") fd ∧ Cl P w K mg base "_law_needless" 3 ["row"] (He.ga K "_law_needless") fd m__law_needless := by
  obtain ⟨fd, F⟩ := F__law_needless t
  obtain ⟨fd__law_row_wrong, G__law_row_wrong, C__law_row_wrong⟩ := c__law_row_wrong (P := P) (w := w) (base := base) t
  refine ⟨fd, F, fn_ok F sc__law_needless (fun cdv A outer s H E hr => ?_), t.gl, F.kp, F.bindsN fun _ _ _ _ _ _ us hl => match us, hl with | [_], _ => rfl, takes_fun⟩
  exact (pmss_one (pms_ret (pm_ct o_tuple (by rfl) (t.fr (x := "tuple")) bt_tuple (pma_cons (pm_lc (own := [("k", 1)]) rfl sc__law_needless.nd (pmi_range2 (by rfl) (t.fr (x := "range")) (pma_cons pm_int (pma_cons (pm_bin o_sub (pm_cb o_len (by rfl) (t.fr (x := "len")) bt_len (pma_cons (pm_var 0) pma_nil)) pm_int) pma_nil))) (blkOk_by (by kernel_rfl)) (by decide) (fun _ _ _ _ _ => (pmg_name 1 sc__law_needless.nd)) (fun _ _ _ _ _ => (pmts_one (pmt_cmp (o_eq (u64 hr)) (pm_c C__law_row_wrong (hr.mono (by decide)) (by rfl) (pma_cons (pm_bin o_add (pm_sl (pm_var 0) pmo_none (pmo_some (pm_var 1))) (pm_sl (pm_var 0) (pmo_some (pm_bin o_add (pm_var 1) pm_int)) pmo_none)) pma_nil)) pm_str))) (fun _ _ _ _ _ => (pm_var 1))) pma_nil))))
theorem c__law_leaned (t : T K mg) : ∃ fd, FunD K "_law_leaned" "_law_leaned" (defArgs s__law_leaned) (defBody s__law_leaned) (defScope s__law_leaned) [] [] (He.ga K "_law_leaned") fd ∧ Cl P w K mg base "_law_leaned" 4 ["row"] (He.ga K "_law_leaned") fd m__law_leaned := by
  obtain ⟨fd, F⟩ := F__law_leaned t
  obtain ⟨fd__law_needless, G__law_needless, C__law_needless⟩ := c__law_needless (P := P) (w := w) (base := base) t
  refine ⟨fd, F, fn_ok F sc__law_leaned (fun cdv A outer s H E hr => ?_), t.gl, F.kp, F.bindsN fun _ _ _ _ _ _ us hl => match us, hl with | [_], _ => rfl, takes_fun⟩
  exact (pmss_cons (pms_while 100000 PassesOwn.never (pmt_cmp (o_ne (u64 hr)) (pm_c C__law_needless (hr.mono (by decide)) (by rfl) (pma_cons (pm_var 0) pma_nil)) (pm_tup pma_nil)) (pmss_cons (pms_set 1 (pm_ix (pm_c C__law_needless (hr.mono (by decide)) (by rfl) (pma_cons (pm_var 0) pma_nil)) pm_int) sc__law_leaned.nd)
    (pmss_one (pms_set 0 (pm_bin o_add (pm_sl (pm_var 0) pmo_none (pmo_some (pm_var 1))) (pm_sl (pm_var 0) (pmo_some (pm_bin o_add (pm_var 1) pm_int)) pmo_none)) sc__law_leaned.nd))))
    (pmss_one (pms_ret (pm_var 0))))
theorem c_made (t : T K mg) : ∃ fd, FunD K "made" "made" (defArgs s_made) (defBody s_made) (defScope s_made) [] [] (He.ga K "made") fd ∧ Cl P w K mg base "made" 4 ["row"] (He.ga K "made") fd m_made := by
  obtain ⟨fd, F⟩ := F_made t
  obtain ⟨fd_check_row, G_check_row, C_check_row⟩ := c_check_row (P := P) (w := w) (base := base) t
  refine ⟨fd, F, fn_ok F sc_made (fun cdv A outer s H E hr => ?_), t.gl, F.kp, F.bindsN fun _ _ _ _ _ _ us hl => match us, hl with | [_], _ => rfl, takes_fun⟩
  exact (pmss_cons (pms_expr (pm_c C_check_row (hr.mono (by decide)) (by rfl) (pma_cons (pm_var 0) pma_nil)))
    (pmss_one (pms_ret (pm_ix (pm_var 0) (pm_un o_neg pm_int)))))
theorem c_is_row (t : T K mg) : ∃ fd, FunD K "is_row" "is_row" (defArgs s_is_row) (defBody s_is_row) (defScope s_is_row) [] [] (He.ga K "is_row") fd ∧ Cl P w K mg base "is_row" 4 ["value"] (He.ga K "is_row") fd m_is_row := by
  obtain ⟨fd, F⟩ := F_is_row t
  obtain ⟨fd_is_row_value, G_is_row_value, C_is_row_value⟩ := c_is_row_value (P := P) (w := w) (base := base) t
  refine ⟨fd, F, fn_ok F sc_is_row (fun cdv A outer s H E hr => ?_), t.gl, F.kp, F.bindsN fun _ _ _ _ _ _ us hl => match us, hl with | [_], _ => rfl, takes_fun⟩
  exact (pmss_one (pms_ret (pm_c C_is_row_value (hr.mono (by decide)) (by rfl) (pma_cons (pm_var 0) pma_nil))))
theorem c__law_row_right (t : T K mg) : ∃ fd, FunD K "_law_row_right" "_law_row_right" (defArgs s__law_row_right) (defBody s__law_row_right) (defScope s__law_row_right) [] [] (He.ga K "_law_row_right") fd ∧ Cl P w K mg base "_law_row_right" 10 ["row"] (He.ga K "_law_row_right") fd m__law_row_right := by
  obtain ⟨fd, F⟩ := F__law_row_right t
  obtain ⟨fd__law_leaned, G__law_leaned, C__law_leaned⟩ := c__law_leaned (P := P) (w := w) (base := base) t
  obtain ⟨fd__law_needless, G__law_needless, C__law_needless⟩ := c__law_needless (P := P) (w := w) (base := base) t
  obtain ⟨fd_leaned, G_leaned, C_leaned⟩ := c_leaned (P := P) (w := w) (base := base) t
  obtain ⟨fd_is_lean, G_is_lean, C_is_lean⟩ := c_is_lean (P := P) (w := w) (base := base) t
  obtain ⟨fd_needless, G_needless, C_needless⟩ := c_needless (P := P) (w := w) (base := base) t
  obtain ⟨fd__law_same, G__law_same, C__law_same⟩ := c__law_same (P := P) (w := w) (base := base) t 8
  obtain ⟨fd_made, G_made, C_made⟩ := c_made (P := P) (w := w) (base := base) t
  obtain ⟨fd_is_row, G_is_row, C_is_row⟩ := c_is_row (P := P) (w := w) (base := base) t
  have kb0 : KB K fd_leaned ["row"] 0 ["row"] [0] := kb_of G_leaned fun _ _ _ _ _ _ us ws h1 h2 => match us, ws, h1, h2 with | [], [_], _, _ => rfl
  have kb1 : KB K fd_is_lean ["row"] 0 ["row"] [0] := kb_of G_is_lean fun _ _ _ _ _ _ us ws h1 h2 => match us, ws, h1, h2 with | [], [_], _, _ => rfl
  have kb2 : KB K fd_needless ["row"] 0 ["row"] [0] := kb_of G_needless fun _ _ _ _ _ _ us ws h1 h2 => match us, ws, h1, h2 with | [], [_], _, _ => rfl
  refine ⟨fd, F, fn_ok F sc__law_row_right (fun cdv A outer s H E hr => ?_), t.gl, F.kp, F.bindsN fun _ _ _ _ _ _ us hl => match us, hl with | [_], _ => rfl, takes_fun⟩
  exact (pmss_cons (pms_asg (pm_tup (pma_cons (pm_c C__law_needless (hr.mono (by decide)) (by rfl) (pma_cons (pm_var 0) pma_nil)) (pma_cons (pm_c C__law_leaned (hr.mono (by decide)) (by rfl) (pma_cons (pm_var 0) pma_nil)) pma_nil))) (pmg_seq rfl (pmgs_cons (pmg_name 1 sc__law_row_right.nd) (pmgs_cons (pmg_name 2 sc__law_row_right.nd) pmgs_nil))))
    (pmss_cons (pms_set 3 (pm_tup (pma_cons (pm_c C_needless (hr.mono (by decide)) (by rfl) (pma_cons (pm_var 0) pma_nil)) (pma_cons (pm_ck0 C_needless (hr.mono (by decide)) (by rfl) kb2 (pmk_cons (pm_var 0) pmk_nil)) (pma_cons (pm_c C_is_lean (hr.mono (by decide)) (by rfl) (pma_cons (pm_var 0) pma_nil)) (pma_cons (pm_ck0 C_is_lean (hr.mono (by decide)) (by rfl) kb1 (pmk_cons (pm_var 0) pmk_nil)) (pma_cons (pm_c C_leaned (hr.mono (by decide)) (by rfl) (pma_cons (pm_var 0) pma_nil)) (pma_cons (pm_ck0 C_leaned (hr.mono (by decide)) (by rfl) kb0 (pmk_cons (pm_var 0) pmk_nil)) pma_nil))))))) sc__law_row_right.nd)
    (pmss_cons (pms_if (pmt_not (pmt_tru (pm_c C__law_same (hr.mono (by decide)) (by rfl) (pma_cons (pm_var 3) (pma_cons (pm_tup (pma_cons (pm_var 1) (pma_cons (pm_var 1) (pma_cons (pm_cmp (o_eq (u64 hr)) (pm_var 1) (pm_tup pma_nil)) (pma_cons (pm_cmp (o_eq (u64 hr)) (pm_var 1) (pm_tup pma_nil)) (pma_cons (pm_var 2) (pma_cons (pm_var 2) pma_nil))))))) pma_nil))))) (pmss_one (pms_ret pm_bl)) pmss_nil)
    (pmss_cons (pms_if (pmt_not (pmt_tru (pm_c C__law_same (hr.mono (by decide)) (by rfl) (pma_cons (pm_tup (pma_cons (pm_c C_needless (hr.mono (by decide)) (by rfl) (pma_cons (pm_var 2) pma_nil)) (pma_cons (pm_c C_is_lean (hr.mono (by decide)) (by rfl) (pma_cons (pm_var 2) pma_nil)) (pma_cons (pm_c C_leaned (hr.mono (by decide)) (by rfl) (pma_cons (pm_var 2) pma_nil)) (pma_cons (pm_c C_made (hr.mono (by decide)) (by rfl) (pma_cons (pm_var 2) pma_nil)) (pma_cons (pm_c C_is_row (hr.mono (by decide)) (by rfl) (pma_cons (pm_var 2) pma_nil)) pma_nil)))))) (pma_cons (pm_tup (pma_cons (pm_tup pma_nil) (pma_cons pm_bl (pma_cons (pm_var 2) (pma_cons (pm_c C_made (hr.mono (by decide)) (by rfl) (pma_cons (pm_var 0) pma_nil)) (pma_cons pm_bl pma_nil)))))) pma_nil))))) (pmss_one (pms_ret pm_bl)) pmss_nil)
    (pmss_one (pms_ret (pm_and (pm_cmp (o_eq (u64 hr)) (pm_lc (own := [("at", 4)]) rfl sc__law_row_right.nd (pmi_range2 (by rfl) (t.fr (x := "range")) (pma_cons pm_int (pma_cons (pm_bin o_sub (pm_cb o_len (by rfl) (t.fr (x := "len")) bt_len (pma_cons (pm_var 0) pma_nil)) pm_int) pma_nil))) (blkOk_by (by kernel_rfl)) (by decide) (fun _ _ _ _ _ => (pmg_name 4 sc__law_row_right.nd)) (fun _ _ _ _ _ => (pmts_one (pmt_cmp (o_ne (u64 hr)) (pm_c C_is_row (hr.mono (by decide)) (by rfl) (pma_cons (pm_bin o_add (pm_sl (pm_var 0) pmo_none (pmo_some (pm_var 4))) (pm_sl (pm_var 0) (pmo_some (pm_bin o_add (pm_var 4) pm_int)) pmo_none)) pma_nil)) (pm_cmp (o_in (u65 hr)) (pm_var 4) (pm_var 1))))) (fun _ _ _ _ _ => (pm_var 4))) (pm_lst pma_nil)) (pm_and (pm_cmp (o_notIn (u65 hr)) pm_int (pm_var 1)) (pm_one (pm_cmp (o_notIn (u65 hr)) (pm_bin o_sub (pm_cb o_len (by rfl) (t.fr (x := "len")) bt_len (pma_cons (pm_var 0) pma_nil)) pm_int) (pm_var 1)))))))))))
theorem c__law_right (t : T K mg) : ∃ fd, FunD K "_law_right" "_law_right" (defArgs s__law_right) (defBody s__law_right) (defScope s__law_right) [] [] (He.ga K "_law_right") fd ∧ Cl P w K mg base "_law_right" 11 ["bowl"] (He.ga K "_law_right") fd m__law_right := by
  obtain ⟨fd, F⟩ := F__law_right t
  obtain ⟨fd__law_row, G__law_row, C__law_row⟩ := c__law_row (P := P) (w := w) (base := base) t
  obtain ⟨fd__law_of, G__law_of, C__law_of⟩ := c__law_of (P := P) (w := w) (base := base) t
  obtain ⟨fd__law_leaned, G__law_leaned, C__law_leaned⟩ := c__law_leaned (P := P) (w := w) (base := base) t
  obtain ⟨fd__law_row_wrong, G__law_row_wrong, C__law_row_wrong⟩ := c__law_row_wrong (P := P) (w := w) (base := base) t
  obtain ⟨fd__law_row_right, G__law_row_right, C__law_row_right⟩ := c__law_row_right (P := P) (w := w) (base := base) t
  obtain ⟨fd__law_known, G__law_known, C__law_known⟩ := c__law_known (P := P) (w := w) (base := base) t
  obtain ⟨fd_leaned, G_leaned, C_leaned⟩ := c_leaned (P := P) (w := w) (base := base) t
  obtain ⟨fd_needless, G_needless, C_needless⟩ := c_needless (P := P) (w := w) (base := base) t
  obtain ⟨fd_is_lean, G_is_lean, C_is_lean⟩ := c_is_lean (P := P) (w := w) (base := base) t
  obtain ⟨fd__law_same, G__law_same, C__law_same⟩ := c__law_same (P := P) (w := w) (base := base) t 8
  refine ⟨fd, F, fn_ok F sc__law_right (fun cdv A outer s H E hr => ?_), t.gl, F.kp, F.bindsN fun _ _ _ _ _ _ us hl => match us, hl with | [_], _ => rfl, takes_fun⟩
  exact (pmss_cons (pms_for PassesOwn.never rfl (pmi_range1 (by rfl) (t.fr (x := "range")) (pma_cons pm_int pma_nil)) (pmg_name 1 sc__law_right.nd) (pmss_cons (pms_set 2 (pm_c C__law_row (hr.mono (by decide)) (by rfl) (pma_cons (pm_var 0) (pma_cons (pm_c C__law_of (hr.mono (by decide)) (by rfl) (pma_cons (pm_var 0) (pma_cons (pm_tup (pma_cons pm_int (pma_cons pm_int (pma_cons pm_int (pma_cons pm_int pma_nil))))) pma_nil))) pma_nil))) sc__law_right.nd)
    (pmss_cons (pms_set 3 (pm_sortSet (by rfl) (t.fr (x := "sorted")) (by rfl) (t.fr (x := "set")) rfl (pm_bin o_add (pm_var 2) (pm_tup (pma_cons (pm_bin o_add (pm_c C__law_of (hr.mono (by decide)) (by rfl) (pma_cons (pm_var 0) (pma_cons (pm_var 2) pma_nil))) (pm_c C__law_of (hr.mono (by decide)) (by rfl) (pma_cons (pm_var 0) (pma_cons (pm_var 2) pma_nil)))) pma_nil)))) sc__law_right.nd)
    (pmss_one (pms_for PassesOwn.never rfl (pmi_seq (pm_tup (pma_cons (pm_var 2) (pma_cons (pm_ct o_tuple (by rfl) (t.fr (x := "tuple")) bt_tuple (pma_cons (pm_var 3) pma_nil)) (pma_cons (pm_c C__law_leaned (hr.mono (by decide)) (by rfl) (pma_cons (pm_var 2) pma_nil)) (pma_cons (pm_sl (pm_c C__law_row (hr.mono (by decide)) (by rfl) (pma_cons (pm_var 0) (pma_cons pm_int pma_nil))) pmo_none (pmo_some pm_int)) pma_nil)))))) (pmg_name 4 sc__law_right.nd) (pmss_one (pms_if (pmt_w (pmw_and (pmt_cmp (o_eq (u64 hr)) (pm_c C__law_row_wrong (hr.mono (by decide)) (by rfl) (pma_cons (pm_var 4) pma_nil)) pm_str) (pmw_and1 (pmt_not (pmt_tru (pm_c C__law_row_right (hr.mono (by decide)) (by rfl) (pma_cons (pm_var 4) pma_nil))))))) (pmss_one (pms_ret pm_bl)) pmss_nil)))))))
    (pmss_cons (pms_for PassesOwn.never rfl (pmi_seq (pm_c0 C__law_known (hr.mono (by decide)) (by rfl))) (pmg_name 2 sc__law_right.nd) (pmss_one (pms_if (pmt_not (pmt_tru (pm_c C__law_row_right (hr.mono (by decide)) (by rfl) (pma_cons (pm_var 2) pma_nil)))) (pmss_one (pms_ret pm_bl)) pmss_nil)))
    (pmss_cons (pms_set 5 (pm_tup (pma_cons pm_int (pma_cons pm_int (pma_cons pm_int (pma_cons pm_int (pma_cons pm_int pma_nil)))))) sc__law_right.nd)
    (pmss_cons (pms_set 6 (pm_tup (pma_cons (pm_c C_needless (hr.mono (by decide)) (by rfl) (pma_cons (pm_var 5) pma_nil)) (pma_cons (pm_c C_leaned (hr.mono (by decide)) (by rfl) (pma_cons (pm_var 5) pma_nil)) (pma_cons (pm_c C_is_lean (hr.mono (by decide)) (by rfl) (pma_cons (pm_var 5) pma_nil)) (pma_cons (pm_c C_is_lean (hr.mono (by decide)) (by rfl) (pma_cons (pm_tup (pma_cons pm_int (pma_cons pm_int (pma_cons pm_int (pma_cons pm_int pma_nil))))) pma_nil)) (pma_cons (pm_c C_needless (hr.mono (by decide)) (by rfl) (pma_cons (pm_tup (pma_cons pm_int (pma_cons pm_int (pma_cons pm_int (pma_cons pm_int pma_nil))))) pma_nil)) (pma_cons (pm_c C_is_lean (hr.mono (by decide)) (by rfl) (pma_cons (pm_tup (pma_cons pm_int pma_nil)) pma_nil)) (pma_cons (pm_c C_needless (hr.mono (by decide)) (by rfl) (pma_cons (pm_tup (pma_cons pm_int pma_nil)) pma_nil)) (pma_cons (pm_c C_leaned (hr.mono (by decide)) (by rfl) (pma_cons (pm_tup (pma_cons pm_int (pma_cons pm_int pma_nil))) pma_nil)) pma_nil))))))))) sc__law_right.nd)
    (pmss_one (pms_ret (pm_c C__law_same (hr.mono (by decide)) (by rfl) (pma_cons (pm_var 6) (pma_cons (pm_tup (pma_cons (pm_tup (pma_cons pm_int (pma_cons pm_int pma_nil))) (pma_cons (pm_tup (pma_cons pm_int (pma_cons pm_int (pma_cons pm_int (pma_cons pm_int pma_nil))))) (pma_cons pm_bl (pma_cons pm_bl (pma_cons (pm_tup pma_nil) (pma_cons pm_bl (pma_cons (pm_tup pma_nil) (pma_cons (pm_tup (pma_cons pm_int (pma_cons pm_int pma_nil))) pma_nil))))))))) pma_nil)))))))))
theorem c__law_bowl (t : T K mg) : ∃ fd, FunD K "_law_bowl" "_law_bowl" (defArgs s__law_bowl) (defBody s__law_bowl) (defScope s__law_bowl) [] [] (He.ga K "_law_bowl") fd ∧ Cl P w K mg base "_law_bowl" 1 ["script", "lap"] (He.ga K "_law_bowl") fd m__law_bowl := by
  obtain ⟨fd, F⟩ := F__law_bowl t
  refine ⟨fd, F, fn_ok F sc__law_bowl (fun cdv A outer s H E hr => ?_), t.gl, F.kp, F.bindsN fun _ _ _ _ _ _ us hl => match us, hl with | [_, _], _ => rfl, takes_fun⟩
  exact (pmss_cons (pms_par2 2 3 rfl sc__law_bowl.nd (pma_cons (pm_if (pmt_cmp o_lt (pm_var 1) (pm_cb o_len (by rfl) (t.fr (x := "len")) bt_len (pma_cons (pm_var 0) pma_nil))) (pm_ct o_int (by rfl) (t.fr (x := "int")) bt_int (pma_cons (pm_ix (pm_var 0) (pm_var 1)) pma_nil)) pm_int) (pma_cons (pm_bin o_add pm_int (pm_bin o_mul pm_int (pm_var 1))) pma_nil)))
    (pmss_cons (pms_for PassesOwn.never rfl (pmi_seq (pm_sl (pm_var 0) pmo_none (pmo_some pm_int))) (pmg_name 4 sc__law_bowl.nd) (pmss_one (pms_set 3 (pm_bin o_mod (pm_ct o_int (by rfl) (t.fr (x := "int")) bt_int (pma_cons (pm_bin o_add (pm_bin o_add (pm_bin o_mul (pm_var 3) pm_int) (pm_bin o_mul (pm_bin o_mod (pm_ct o_int (by rfl) (t.fr (x := "int")) bt_int (pma_cons (pm_var 4) pma_nil)) pm_int) pm_int)) pm_int) pma_nil)) pm_int) sc__law_bowl.nd)))
    (pmss_cons (pms_set 5 (pm_if (pmt_w (pmw_or (pmt_cmp o_lt (pm_var 2) pm_int) (pmw_or1 (pmt_cmp o_ge (pm_var 2) (pm_bin o_pow pm_int pm_int))))) (pm_bin o_mod (pm_cb o_abs (by rfl) (t.fr (x := "abs")) bt_abs (pma_cons (pm_var 2) pma_nil)) (pm_bin o_pow pm_int pm_int)) pm_int) sc__law_bowl.nd)
    (pmss_one (pms_ret (pm_lst (pma_cons (pm_var 5) (pma_cons (pm_bin o_mod (pm_ct o_int (by rfl) (t.fr (x := "int")) bt_int (pma_cons (pm_bin o_add (pm_bin o_add (pm_bin o_mul (pm_var 3) pm_int) (pm_bin o_mod (pm_ct o_int (by rfl) (t.fr (x := "int")) bt_int (pma_cons (pm_var 2) pma_nil)) pm_int)) pm_int) pma_nil)) pm_int) pma_nil))))))))
theorem c_law (t : T K mg) : ∃ fd, FunD K "law" "law" (defArgs s_law) (defBody s_law) (defScope s_law) [] [] (He.ga K "law") fd ∧ Cl P w K mg base "law" 12 ["script"] (He.ga K "law") fd m_law := by
  obtain ⟨fd, F⟩ := F_law t
  obtain ⟨fd__law_right, G__law_right, C__law_right⟩ := c__law_right (P := P) (w := w) (base := base) t
  obtain ⟨fd__law_bowl, G__law_bowl, C__law_bowl⟩ := c__law_bowl (P := P) (w := w) (base := base) t
  refine ⟨fd, F, fn_ok F sc_law (fun cdv A outer s H E hr => ?_), t.gl, F.kp, F.bindsN fun _ _ _ _ _ _ us hl => match us, hl with | [_], _ => rfl, takes_fun⟩
  exact (pmss_one (pms_ret (pm_cb (o_all rfl) (by rfl) (t.fr (x := "all")) bt_all (pma_cons (pm_lc (own := [("lap", 1)]) rfl sc_law.nd (pmi_range1 (by rfl) (t.fr (x := "range")) (pma_cons (pm_cb (o_max2 rfl) (by rfl) (t.fr (x := "max")) bt_max (pma_cons pm_int (pma_cons (pm_cb (o_min2 rfl) (by rfl) (t.fr (x := "min")) bt_min (pma_cons (pm_cb o_len (by rfl) (t.fr (x := "len")) bt_len (pma_cons (pm_var 0) pma_nil)) (pma_cons pm_int pma_nil))) pma_nil))) pma_nil)) (blkOk_by (by kernel_rfl)) (by decide) (fun _ _ _ _ _ => (pmg_name 1 sc_law.nd)) (fun _ _ _ _ _ => pmts_nil) (fun _ _ _ _ _ => (pm_c C__law_right (hr.mono (by decide)) (by rfl) (pma_cons (pm_c C__law_bowl (hr.mono (by decide)) (by rfl) (pma_cons (pm_var 0) (pma_cons (pm_var 1) pma_nil))) pma_nil)))) pma_nil))))
end
abbrev rw' : PySem.W.OpenRow := PySem.W.OpenLaw.row PySem.Challenge.rw_powerrows_k07_needless_elements_and_lean
abbrev hk : PySem.W.Hook := He.hookD 4 fas fns
def ob (s : PySem.W.SharedT) : He.AlD := He.obsDG 4 fas fns (HandSHeadRun.getT s)
theorem ob_eq (s : PySem.W.SharedT) : ob s = hk.obs s.abs := He.obsDG_eq (HandSHeadRun.getT_eq s)
def lo0 : List Str := ["is_whole", "is_sum_in", "wrong_in_row", "is_row_value", "check_row", "without", "needless_in", "leaned_by", "needless", "is_lean", "leaned", "is_row", "made", "_law_bowl", "_law_draw", "_law_of", "_law_same", "_law_is_whole", "_law_reasons", "_law_row_wrong", "_law_row_by", "_law_plan", "_law_row", "_law_known", "_law_needless", "_law_leaned", "_law_row_right", "_law_right", "PowerError", "InvalidRow"]
def lo1 : List Str := ["MOST_ELEMENTS"]
def loose : List Str := lo0 ++ lo1
theorem run (w : World) : HandSHeadRun.RunEq rw' (PySem.W.view rw'.prog [39]) hk ob 2680 loose w := by
  intro os
  kernel_rfl
end L_k07
open PySem PySem.W PySem.Calls PyProof.Rows
theorem PySem.Challenge.cw_powerrows_k07_needless_elements_and_lean_holds : PySem.Challenge.rw_powerrows_k07_needless_elements_and_lean.Holds := by
  w_on; o_law
  refine HandSHeadRun.head_any (r := OpenLaw.row PySem.Challenge.rw_powerrows_k07_needless_elements_and_lean) (q := view (OpenLaw.row PySem.Challenge.rw_powerrows_k07_needless_elements_and_lean).prog [39]) (H := L_k07.hk) (ob := L_k07.ob) (M := 2680) (loose := L_k07.loose) (d := HandSHeadRun.topDef (OpenLaw.row PySem.Challenge.rw_powerrows_k07_needless_elements_and_lean).prog 39) (kwd := []) L_k07.ob_eq
    (by kernel_rfl) (fun s => by kernel_rfl) L_k07.run (by kernel_rfl) (by kernel_rfl) (by kernel_rfl) (by rfl) (by first | assumption | decide +kernel) (by decide +kernel) ⟨rfl, rfl, rfl, rfl, rfl, by decide +kernel⟩ ?hw ?hc
  case hw => w_witness2
  case hc =>
    refine L2.walk_ofE (l := PySem.Challenge.rw_powerrows_k07_needless_elements_and_lean) (n := 63) (k := 12) (x := "script") (CX := L2.CX0) rfl (by decide) (by kernel_rfl) ⟨rfl, by decide, by decide⟩ ?F (fun _ _ _ _ z => z)
    intro w mg fa h Y G hmg0
    obtain ⟨K, KX, c⟩ := Y
    have hmg : mg ("law" : PySem.Str) = some (.ref fa) := by
      have e : (HandSHeadRun.topDef (OpenLaw.row PySem.Challenge.rw_powerrows_k07_needless_elements_and_lean).prog 39).name = ("law" : PySem.Str) := by kernel_rfl
      rw [← e]
      exact hmg0
    have t : L_k07.T K mg := ⟨c, h, KX, G⟩
    obtain ⟨fd, F⟩ := L_k07.F_law t
    have ef := hmg.symm.trans (t.gl (h := by simp [L_k07.fas]))
    cases ef
    have b := L2.FunD.bindsA (ps := ["script"]) F fun _ _ _ _ _ _ us hl => match us, hl with | [_], _ => rfl
    refine ⟨K, fd, En.spM K 1 L_k07.m_law, KX, fun s v => b s [v] rfl, fun H a ns hl ho hS => ?_, fun base _ _ => ?_⟩
    · obtain ⟨S', e⟩ := L_k07.law_true ns hl
      exact En.sp_law ho hS e
    · obtain ⟨fd', F', C⟩ := L_k07.c_law (P := (PySem.Challenge.rw_powerrows_k07_needless_elements_and_lean).prog) (w := w) (base := base) t
      have e1 := En.FunD.fdOf F
      rw [En.FunD.fdOf F'] at e1
      cases e1
      exact C.ok
