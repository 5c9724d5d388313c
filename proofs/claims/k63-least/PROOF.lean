import PyProof.Rows.All
import Wide.All
import OpenK.AllK
import Wide.FinOn
import HandS.ForMost
import HandS.Flow
import HandS.Style
import HandS.Conv
import HandS.TupAny
import HandS.SetKeys
import HandS.IsInst
import HandS.Zip
import HandS.Walk
import HandS.Defaults
import HandS.Evl
import HandS.Wide
import KE.KDictKeyed
import KE.KDictDisplayH
import PyProof.ReprRoads
import PyProof.ReprLen
import KE.DataMinMax
import KE.DatumOrd
import KE.GoesEnum
import KE.GoesZip
import KE.GoesMore
import PySem.Challenge.RW_ledalong_k63_whole_least_readers
import PyProof.FitsInt
set_option Elab.async false
set_option linter.all false
set_option autoImplicit false
set_option maxRecDepth 100000
set_option maxHeartbeats 4000000
/-! K63Math1: lists, breadth-first orders (by a key), their relation, naming. Plain Lean. -/
namespace K63

/-- pointwise related lists -/
inductive F2 {α β : Type} (R : α → β → Prop) : List α → List β → Prop where
  | nil : F2 R [] []
  | cons {a b as bs} : R a b → F2 R as bs → F2 R (a :: as) (b :: bs)

section F2
variable {α β γ δ : Type} {R : α → β → Prop}
theorem F2.len {xs : List α} {ys : List β} (h : F2 R xs ys) : xs.length = ys.length := by
  induction h with
  | nil => rfl
  | cons _ _ ih => simp [ih]
theorem F2.append {xs : List α} {ys : List β} {xs' : List α} {ys' : List β} (h : F2 R xs ys) (h' : F2 R xs' ys') : F2 R (xs ++ xs') (ys ++ ys') := by
  induction h with
  | nil => exact h'
  | cons r _ ih => exact .cons r ih
theorem F2.get {xs : List α} {ys : List β} (h : F2 R xs ys) : ∀ {i : Nat} {x : α} {y : β}, xs[i]? = some x → ys[i]? = some y → R x y := by
  induction h with
  | nil => intro i x y h1; simp at h1
  | cons r _ ih =>
    intro i x y h1 h2
    cases i with
    | zero => simp at h1 h2; subst h1; subst h2; exact r
    | succ i => exact ih (by simpa using h1) (by simpa using h2)
theorem F2.of_get {xs : List α} {ys : List β} (hl : xs.length = ys.length) (h : ∀ (i : Nat) (x : α) (y : β), xs[i]? = some x → ys[i]? = some y → R x y) : F2 R xs ys := by
  induction xs generalizing ys with
  | nil => cases ys with
    | nil => exact .nil
    | cons _ _ => simp at hl
  | cons a as ih => cases ys with
    | nil => simp at hl
    | cons b bs => exact .cons (h 0 a b rfl rfl) (ih (by simpa using hl) fun i x y h1 h2 => h (i + 1) x y (by simpa using h1) (by simpa using h2))
theorem F2.map_left {f : γ → α} {xs : List γ} {ys : List β} : F2 R (xs.map f) ys ↔ F2 (fun x y => R (f x) y) xs ys := by
  constructor
  · intro h
    refine F2.of_get (by simpa using h.len) fun i x y h1 h2 => h.get (i := i) ?_ h2
    rw [List.getElem?_map, h1]; rfl
  · intro h
    refine F2.of_get (by simpa using h.len) fun i x y h1 h2 => ?_
    rw [List.getElem?_map] at h1
    cases e : xs[i]? with
    | none => rw [e] at h1; simp at h1
    | some u => rw [e] at h1; simp at h1; subst h1; exact h.get e h2
theorem F2.mono {R' : α → β → Prop} {xs : List α} {ys : List β} (h : F2 R xs ys) (f : ∀ a b, R a b → R' a b) : F2 R' xs ys := by
  induction h with
  | nil => exact .nil
  | cons r _ ih => exact .cons (f _ _ r) ih
theorem F2.mono_mem {R' : α → β → Prop} {xs : List α} {ys : List β} (h : F2 R xs ys) (f : ∀ a ∈ xs, ∀ b ∈ ys, R a b → R' a b) : F2 R' xs ys := by
  induction h with
  | nil => exact .nil
  | cons r _ ih => exact .cons (f _ (by simp) _ (by simp) r) (ih fun a ha b hb => f a (by simp [ha]) b (by simp [hb]))
theorem F2.map {f : α → γ} {g : β → δ} {S : γ → δ → Prop} {xs : List α} {ys : List β} (h : F2 R xs ys) (k : ∀ a b, R a b → S (f a) (g b)) : F2 S (xs.map f) (ys.map g) := by
  induction h with
  | nil => exact .nil
  | cons r _ ih => exact .cons (k _ _ r) ih
theorem F2.eq {xs ys : List α} (h : F2 (fun a b => a = b) xs ys) : xs = ys := by
  induction h with
  | nil => rfl
  | cons r _ ih => rw [r, ih]
theorem F2.map_eq {f : α → γ} {g : β → γ} {xs : List α} {ys : List β} (h : F2 R xs ys) (k : ∀ a b, R a b → f a = g b) : xs.map f = ys.map g := (h.map (S := fun a b => a = b) k).eq
theorem F2.refl {R : α → α → Prop} : ∀ (xs : List α), (∀ x ∈ xs, R x x) → F2 R xs xs
  | [], _ => .nil
  | x :: xs, h => .cons (h x (by simp)) (F2.refl xs fun y hy => h y (by simp [hy]))
theorem F2.self_map {f : α → β} : ∀ (xs : List α), (∀ x ∈ xs, R x (f x)) → F2 R xs (xs.map f)
  | [], _ => .nil
  | x :: xs, h => .cons (h x (by simp)) (F2.self_map xs fun y hy => h y (by simp [hy]))
theorem F2.mem_left {xs : List α} {ys : List β} (h : F2 R xs ys) : ∀ {x : α}, x ∈ xs → ∃ y ∈ ys, R x y := by
  induction h with
  | nil => intro x hx; simp at hx
  | cons r _ ih =>
    intro x hx
    rcases List.mem_cons.mp hx with rfl | hx
    · exact ⟨_, by simp, r⟩
    · obtain ⟨y, hy, hr⟩ := ih hx
      exact ⟨y, by simp [hy], hr⟩
theorem F2.mem_right {xs : List α} {ys : List β} (h : F2 R xs ys) : ∀ {y : β}, y ∈ ys → ∃ x ∈ xs, R x y := by
  induction h with
  | nil => intro x hx; simp at hx
  | cons r _ ih =>
    intro y hy
    rcases List.mem_cons.mp hy with rfl | hy
    · exact ⟨_, by simp, r⟩
    · obtain ⟨x, hx, hr⟩ := ih hy
      exact ⟨x, by simp [hx], hr⟩
end F2

theorem length_le_of_nodup {α : Type} [DecidableEq α] : ∀ (l m : List α), l.Nodup → (∀ x ∈ l, x ∈ m) → l.length ≤ m.length
  | [], _, _, _ => Nat.zero_le _
  | x :: l, m, hn, hs => by
    rw [List.nodup_cons] at hn
    have hx : x ∈ m := hs x (by simp)
    have ih := length_le_of_nodup l (m.erase x) hn.2 fun y hy => by
      have hne : y ≠ x := fun e => hn.1 (e ▸ hy)
      exact (List.mem_erase_of_ne hne).mpr (hs y (by simp [hy]))
    have hlen := List.length_erase_of_mem hx
    have hpos : 0 < m.length := List.length_pos_of_mem hx
    simp only [List.length_cons]
    omega
theorem length_le_of_lt {l : List Nat} {n : Nat} (hn : l.Nodup) (h : ∀ x ∈ l, x < n) : l.length ≤ n := by
  have := length_le_of_nodup l (List.range n) hn fun x hx => List.mem_range.mpr (h x hx)
  simpa using this

/-! ### breadth-first orders -/
section Bfs
variable {α β : Type} [DecidableEq α] (key : β → α) (row : β → List β) (s : β)
def addNew (o : List β) (x : β) : List β := if key x ∈ o.map key then o else o ++ [x]
def expand (o : List β) (r : List β) : List β := r.foldl (addNew key) o
def ordAt : Nat → List β
  | 0 => [s]
  | k + 1 => match (ordAt k)[k]? with
    | some p => expand key (ordAt k) (row p)
    | none => ordAt k

theorem addNew_prefix (o : List β) (x : β) : o <+: addNew key o x := by
  unfold addNew; split
  · exact List.prefix_refl _
  · exact List.prefix_append _ _
theorem addNew_mem {o : List β} {x : β} {a : α} : a ∈ (addNew key o x).map key ↔ a ∈ o.map key ∨ a = key x := by
  unfold addNew; split
  · rename_i h
    constructor
    · exact .inl
    · rintro (h' | rfl)
      · exact h'
      · exact h
  · simp [or_comm, eq_comm]
theorem addNew_sub {o : List β} {x y : β} (h : y ∈ addNew key o x) : y ∈ o ∨ y = x := by
  unfold addNew at h; split at h
  · exact .inl h
  · rcases List.mem_append.mp h with h | h
    · exact .inl h
    · exact .inr (by simpa using h)
theorem addNew_nodup {o : List β} {x : β} (h : (o.map key).Nodup) : ((addNew key o x).map key).Nodup := by
  unfold addNew; split
  · exact h
  · rename_i hx
    rw [List.map_append, List.nodup_append]
    refine ⟨h, by simp, fun a ha b hb => ?_⟩
    simp at hb
    subst hb
    rintro rfl
    exact hx ha
theorem expand_nil (o : List β) : expand key o [] = o := rfl
theorem expand_cons (o : List β) (x : β) (r : List β) : expand key o (x :: r) = expand key (addNew key o x) r := rfl
theorem expand_snoc (o : List β) (x : β) (r : List β) : expand key o (r ++ [x]) = addNew key (expand key o r) x := by
  unfold expand; rw [List.foldl_append]; rfl
theorem expand_prefix : ∀ (r o : List β), o <+: expand key o r
  | [], o => List.prefix_refl _
  | x :: r, o => (addNew_prefix key o x).trans (expand_prefix r _)
theorem expand_mem : ∀ {r o : List β} {a : α}, a ∈ (expand key o r).map key ↔ a ∈ o.map key ∨ a ∈ r.map key
  | [], o, a => by simp [expand_nil]
  | x :: r, o, a => by
    rw [expand_cons, expand_mem, addNew_mem]
    simp [or_assoc, eq_comm]
theorem expand_sub : ∀ {r o : List β} {y : β}, y ∈ expand key o r → y ∈ o ∨ y ∈ r
  | [], o, y, h => .inl h
  | x :: r, o, y, h => by
    rw [expand_cons] at h
    rcases expand_sub h with h | h
    · rcases addNew_sub key h with h | h
      · exact .inl h
      · exact .inr (by simp [h])
    · exact .inr (by simp [h])
theorem expand_nodup : ∀ {r o : List β}, (o.map key).Nodup → ((expand key o r).map key).Nodup
  | [], _, h => h
  | x :: r, o, h => by rw [expand_cons]; exact expand_nodup (addNew_nodup key h)

theorem ordAt_succ (k : Nat) : ordAt key row s (k + 1) = match (ordAt key row s k)[k]? with
    | some p => expand key (ordAt key row s k) (row p)
    | none => ordAt key row s k := rfl
theorem ordAt_prefix1 (k : Nat) : ordAt key row s k <+: ordAt key row s (k + 1) := by
  rw [ordAt_succ]; split
  · exact expand_prefix key _ _
  · exact List.prefix_refl _
theorem ordAt_prefix {k m : Nat} (h : k ≤ m) : ordAt key row s k <+: ordAt key row s m := by
  induction m with
  | zero => have : k = 0 := by omega
            subst this; exact List.prefix_refl _
  | succ m ih =>
    by_cases e : k = m + 1
    · subst e; exact List.prefix_refl _
    · exact (ih (by omega)).trans (ordAt_prefix1 key row s m)
theorem ordAt_nodup (k : Nat) : ((ordAt key row s k).map key).Nodup := by
  induction k with
  | zero => simp [ordAt]
  | succ k ih =>
    rw [ordAt_succ]; split
    · exact expand_nodup key ih
    · exact ih
theorem ordAt_stuck {k : Nat} (h : (ordAt key row s k).length ≤ k) : ∀ m, k ≤ m → ordAt key row s m = ordAt key row s k := by
  intro m
  induction m with
  | zero => intro hm; have : k = 0 := by omega
            subst this; rfl
  | succ m ih =>
    intro hm
    by_cases e : k = m + 1
    · subst e; rfl
    · have e1 := ih (by omega)
      rw [ordAt_succ, e1]
      rw [List.getElem?_eq_none (by omega)]
theorem ordAt_head (k : Nat) : (ordAt key row s k)[0]? = some s := by
  have := ordAt_prefix key row s (Nat.zero_le k)
  obtain ⟨t, ht⟩ := this
  rw [← ht]; rfl
theorem ordAt_pos (k : Nat) : 0 < (ordAt key row s k).length := by
  have := ordAt_head key row s k
  exact (List.getElem?_eq_some_iff.mp this).1
theorem prefix_get {γ : Type} {l m : List γ} (h : l <+: m) {i : Nat} {x : γ} (e : l[i]? = some x) : m[i]? = some x := by
  obtain ⟨t, rfl⟩ := h
  have hi := (List.getElem?_eq_some_iff.mp e).1
  rw [List.getElem?_append_left hi]; exact e
theorem prefix_get_back {γ : Type} {l m : List γ} (h : l <+: m) {i : Nat} {x : γ} (hi : i < l.length) (e : m[i]? = some x) : l[i]? = some x := by
  obtain ⟨t, rfl⟩ := h
  rw [List.getElem?_append_left hi] at e; exact e
theorem prefix_mem {γ : Type} {l m : List γ} (h : l <+: m) {x : γ} (e : x ∈ l) : x ∈ m := by
  obtain ⟨t, rfl⟩ := h
  exact List.mem_append_left _ e
/-- what has been gone through is closed -/
theorem ordAt_closed {k i : Nat} {p : β} (hi : i < k) (hp : (ordAt key row s k)[i]? = some p) : ∀ x ∈ row p, key x ∈ (ordAt key row s k).map key := by
  intro x hx
  have h1 : (ordAt key row s i)[i]? = some p ∨ (ordAt key row s i)[i]? = none := by
    cases e : (ordAt key row s i)[i]? with
    | none => exact .inr rfl
    | some q =>
      have := prefix_get (ordAt_prefix key row s (Nat.le_of_lt hi)) e
      rw [hp] at this; exact .inl this.symm
  rcases h1 with h1 | h1
  · have h2 : key x ∈ (ordAt key row s (i + 1)).map key := by
      rw [ordAt_succ, h1]
      exact (expand_mem key).mpr (.inr (List.mem_map_of_mem hx))
    have h3 : (ordAt key row s (i + 1)).map key <+: (ordAt key row s k).map key := (ordAt_prefix key row s hi).map key
    exact prefix_mem h3 h2
  · -- stuck
    have hle : (ordAt key row s i).length ≤ i := List.getElem?_eq_none_iff.mp h1
    have e := ordAt_stuck key row s hle k (Nat.le_of_lt hi)
    rw [e, h1] at hp; cases hp
/-- an invariant of the items -/
theorem ordAt_all (P : β → Prop) (h0 : P s) (hs : ∀ p, P p → ∀ x ∈ row p, P x) (k : Nat) : ∀ x ∈ ordAt key row s k, P x := by
  induction k with
  | zero => intro x hx; simp [ordAt] at hx; subst hx; exact h0
  | succ k ih =>
    intro x hx
    rw [ordAt_succ] at hx
    split at hx
    · rename_i p hp
      rcases expand_sub key hx with h | h
      · exact ih x h
      · exact hs p (ih p (List.mem_of_getElem? hp)) x h
    · exact ih x hx
end Bfs

section Rel
variable {α β α' β' : Type} [DecidableEq α] [DecidableEq α'] {key : β → α} {row : β → List β} {s : β} {key' : β' → α'} {row' : β' → List β'} {s' : β'} (R : β → β' → Prop)
theorem mem_rel (hk : ∀ x y x' y', R x y → R x' y' → (key x = key x' ↔ key' y = key' y')) {o : List β} {o' : List β'} (h : F2 R o o') {x : β} {y : β'} (r : R x y) : key x ∈ o.map key ↔ key' y ∈ o'.map key' := by
  simp only [List.mem_map]
  constructor
  · rintro ⟨z, hz, e⟩
    obtain ⟨z', hz', rz⟩ := h.mem_left hz
    exact ⟨z', hz', (hk _ _ _ _ rz r).mp e⟩
  · rintro ⟨z', hz', e⟩
    obtain ⟨z, hz, rz⟩ := h.mem_right hz'
    exact ⟨z, hz, (hk _ _ _ _ rz r).mpr e⟩
theorem expand_rel (hk : ∀ x y x' y', R x y → R x' y' → (key x = key x' ↔ key' y = key' y')) {r : List β} {r' : List β'} (hr : F2 R r r') : ∀ {o : List β} {o' : List β'}, F2 R o o' → F2 R (expand key o r) (expand key' o' r') := by
  induction hr with
  | nil => intro o o' h; exact h
  | @cons a b as bs rx _ ih =>
    intro o o' h
    rw [expand_cons, expand_cons]
    refine ih ?_
    unfold addNew
    by_cases hm : key a ∈ o.map key
    · rw [if_pos hm, if_pos ((mem_rel R hk h rx).mp hm)]; exact h
    · rw [if_neg hm, if_neg (fun z => hm ((mem_rel R hk h rx).mpr z))]
      exact h.append (.cons rx .nil)
theorem ordAt_rel (hk : ∀ x y x' y', R x y → R x' y' → (key x = key x' ↔ key' y = key' y')) (h0 : R s s') (hr : ∀ x y, R x y → F2 R (row x) (row' y)) (k : Nat) : F2 R (ordAt key row s k) (ordAt key' row' s' k) := by
  induction k with
  | zero => exact .cons h0 .nil
  | succ k ih =>
    rw [ordAt_succ, ordAt_succ]
    cases e : (ordAt key row s k)[k]? with
    | none =>
      have h1 := List.getElem?_eq_none_iff.mp e
      rw [ih.len] at h1
      rw [List.getElem?_eq_none h1]; exact ih
    | some p =>
      have h1 := (List.getElem?_eq_some_iff.mp e).1
      rw [ih.len] at h1
      rw [List.getElem?_eq_getElem h1]
      exact expand_rel R hk (hr _ _ (ih.get e (List.getElem?_eq_getElem h1))) ih
theorem idxOf_rel {α α' : Type} [DecidableEq α] [DecidableEq α'] (R : α → α' → Prop) (hk : ∀ x y x' y', R x y → R x' y' → (x = x' ↔ y = y')) {o : List α} {o' : List α'} (h : F2 R o o') {x : α} {y : α'} (r : R x y) : o.idxOf x = o'.idxOf y := by
  induction h with
  | nil => rfl
  | @cons a b as bs rz _ ih =>
    rw [List.idxOf_cons, List.idxOf_cons, ih]
    have := hk _ _ _ _ rz r
    by_cases e : a = x
    · rw [beq_iff_eq.mpr e, beq_iff_eq.mpr (this.mp e)]
    · rw [beq_eq_false_iff_ne.mpr e, beq_eq_false_iff_ne.mpr (fun z => e (this.mpr z))]
end Rel

/-! ### naming things as they are met -/
section Named
variable {α β : Type} [DecidableEq α] [DecidableEq β]
def uniq (xs : List α) : List α := expand id [] xs
def named (xs : List α) : List Nat := xs.map fun x => (uniq xs).idxOf x
theorem mem_uniq {xs : List α} {x : α} : x ∈ uniq xs ↔ x ∈ xs := by
  have := expand_mem (id : α → α) (r := xs) (o := []) (a := x)
  simpa [uniq] using this
theorem uniq_snoc (xs : List α) (x : α) : uniq (xs ++ [x]) = if x ∈ xs then uniq xs else uniq xs ++ [x] := by
  unfold uniq
  rw [expand_snoc]
  have h : (x ∈ expand id [] xs) ↔ x ∈ xs := mem_uniq
  unfold addNew
  simp only [List.map_id, id]
  by_cases e : x ∈ xs
  · rw [if_pos e, if_pos (h.mpr e)]
  · rw [if_neg e, if_neg (fun z => e (h.mp z))]
theorem uniq_nodup (xs : List α) : (uniq xs).Nodup := by
  have := expand_nodup (id : α → α) (r := xs) (o := []) (by simp)
  simpa [uniq] using this
theorem uniq_prefix (xs ys : List α) : uniq xs <+: uniq (xs ++ ys) := by
  unfold uniq expand
  rw [List.foldl_append]
  exact expand_prefix id _ _
theorem named_length (xs : List α) : (named xs).length = xs.length := by simp [named]
theorem named_get {xs : List α} {i : Nat} {x : α} (h : xs[i]? = some x) : (named xs)[i]? = some ((uniq xs).idxOf x) := by
  unfold named; rw [List.getElem?_map, h]; rfl
theorem idxOf_inj {l : List α} {x y : α} (hx : x ∈ l) (h : l.idxOf x = l.idxOf y) : x = y := by
  have h1 := List.idxOf_lt_length_of_mem hx
  have e1 : l[l.idxOf x]? = some x := by rw [List.getElem?_eq_getElem h1]; simp
  have h2 : l.idxOf y < l.length := h ▸ h1
  have e2 : l[l.idxOf y]? = some y := by rw [List.getElem?_eq_getElem h2]; simp
  rw [h, e2] at e1
  exact (Option.some.inj e1).symm
theorem named_eq {xs : List α} {i j : Nat} {x y : α} (hi : xs[i]? = some x) (hj : xs[j]? = some y) : (named xs)[i]? = (named xs)[j]? ↔ x = y := by
  rw [named_get hi, named_get hj]
  constructor
  · intro h
    exact idxOf_inj (mem_uniq.mpr (List.mem_of_getElem? hi)) (Option.some.inj h)
  · rintro rfl; rfl
/-- the names hang on the pattern alone -/
theorem uniq_map (f : α → β) (xs : List α) (hf : ∀ x ∈ xs, ∀ y ∈ xs, f x = f y → x = y) : uniq (xs.map f) = (uniq xs).map f := by
  have : ∀ (n : Nat), uniq ((xs.take n).map f) = (uniq (xs.take n)).map f := by
    intro n
    induction n with
    | zero => simp [uniq, expand]
    | succ n ih =>
      rw [List.take_add_one]
      cases e : xs[n]? with
      | none => simpa using ih
      | some x =>
        simp only [Option.toList_some, List.map_append, List.map_cons, List.map_nil]
        rw [uniq_snoc, uniq_snoc, ih]
        have hx : x ∈ xs := List.mem_of_getElem? e
        have : f x ∈ (xs.take n).map f ↔ x ∈ xs.take n := by
          simp only [List.mem_map]
          constructor
          · rintro ⟨y, hy, e⟩
            exact hf y (List.mem_of_mem_take hy) x hx e ▸ hy
          · exact fun h => ⟨x, h, rfl⟩
        by_cases h : x ∈ xs.take n
        · rw [if_pos h, if_pos (this.mpr h)]
        · rw [if_neg h, if_neg (fun z => h (this.mp z))]; simp
  have := this xs.length
  rwa [List.take_length] at this
theorem idxOf_map (f : α → β) {xs : List α} {x : α} (hf : ∀ y ∈ xs, f y = f x → y = x) : (xs.map f).idxOf (f x) = xs.idxOf x := by
  induction xs with
  | nil => rfl
  | cons a as ih =>
    rw [List.map_cons, List.idxOf_cons, List.idxOf_cons, ih fun y hy => hf y (by simp [hy])]
    by_cases e : a = x
    · subst e; simp
    · have : ¬ f a = f x := fun z => e (hf a (by simp) z)
      rw [beq_eq_false_iff_ne.mpr e, beq_eq_false_iff_ne.mpr this]
theorem named_map (f : α → β) (xs : List α) (hf : ∀ x ∈ xs, ∀ y ∈ xs, f x = f y → x = y) : named (xs.map f) = named xs := by
  unfold named
  rw [List.map_map, uniq_map f xs hf]
  refine List.map_congr_left fun x hx => ?_
  exact idxOf_map f fun y hy => hf y (mem_uniq.mp hy) x hx
theorem uniq_len_le (f : α → β) (xs : List α) : (uniq (xs.map f)).length ≤ (uniq xs).length ∧ ((uniq (xs.map f)).length = (uniq xs).length → ∀ x ∈ xs, ∀ y ∈ xs, f x = f y → x = y) := by
  have : ∀ (n : Nat), (uniq ((xs.take n).map f)).length ≤ (uniq (xs.take n)).length ∧ ((uniq ((xs.take n).map f)).length = (uniq (xs.take n)).length → ∀ x ∈ xs.take n, ∀ y ∈ xs.take n, f x = f y → x = y) := by
    intro n
    induction n with
    | zero => exact ⟨by simp [uniq, expand], fun _ x hx => by simp at hx⟩
    | succ n ih =>
      rw [List.take_add_one]
      cases e : xs[n]? with
      | none => simpa using ih
      | some z =>
        simp only [Option.toList_some, List.map_append, List.map_cons, List.map_nil]
        rw [uniq_snoc, uniq_snoc]
        obtain ⟨ih1, ih2⟩ := ih
        by_cases h : z ∈ xs.take n
        · have h' : f z ∈ (xs.take n).map f := List.mem_map_of_mem h
          rw [if_pos h, if_pos h']
          refine ⟨ih1, fun q => ?_⟩
          have ih3 := ih2 q
          have mem : ∀ x, x ∈ xs.take n ++ [z] → x ∈ xs.take n := by
            intro x hx
            rcases List.mem_append.mp hx with hx | hx
            · exact hx
            · simp at hx; exact hx ▸ h
          exact fun x hx y hy => ih3 x (mem x hx) y (mem y hy)
        · rw [if_neg h]
          by_cases h' : f z ∈ (xs.take n).map f
          · rw [if_pos h']
            simp only [List.length_append, List.length_cons, List.length_nil]
            refine ⟨by omega, fun q => by omega⟩
          · rw [if_neg h']
            simp only [List.length_append, List.length_cons, List.length_nil]
            refine ⟨by omega, fun q => ?_⟩
            have ih3 := ih2 (by omega)
            intro x hx y hy exy
            rcases List.mem_append.mp hx with ux | ux <;> rcases List.mem_append.mp hy with uy | uy
            · exact ih3 x ux y uy exy
            · simp at uy; rw [uy] at exy
              exact absurd (List.mem_map.mpr ⟨x, ux, exy⟩) h'
            · simp at ux; rw [ux] at exy
              exact absurd (List.mem_map.mpr ⟨y, uy, exy.symm⟩) h'
            · simp at ux uy; rw [ux, uy]
  have := this xs.length
  rwa [List.take_length] at this
theorem uniq_len (xs : List α) : (uniq xs).length ≤ xs.length := length_le_of_nodup _ _ (uniq_nodup xs) fun _ h => mem_uniq.mp h
theorem named_lt {xs : List α} {k : Nat} (h : k ∈ named xs) : k < (uniq xs).length := by
  unfold named at h
  obtain ⟨x, hx, rfl⟩ := List.mem_map.mp h
  exact List.idxOf_lt_length_of_mem (mem_uniq.mpr hx)
theorem named_onto {xs : List α} {k : Nat} (h : k < (uniq xs).length) : k ∈ named xs := by
  unfold named
  refine List.mem_map.mpr ⟨(uniq xs)[k], mem_uniq.mp (List.getElem_mem h), ?_⟩
  exact (uniq_nodup xs).idxOf_getElem k h
theorem uniq_pos {xs : List α} (h : 0 < xs.length) : 0 < (uniq xs).length := by
  cases xs with
  | nil => simp at h
  | cons x xs => exact List.length_pos_of_mem (mem_uniq.mpr (List.mem_cons_self (a := x) (l := xs)))
theorem named_zero {xs : List α} (h : 0 < xs.length) : (named xs)[0]? = some 0 := by
  cases xs with
  | nil => simp at h
  | cons x xs =>
    rw [named_get (x := x) rfl]
    have : uniq [x] <+: uniq ([x] ++ xs) := uniq_prefix [x] xs
    obtain ⟨t, ht⟩ := this
    have e1 : uniq [x] = [x] := by simp [uniq, expand, addNew]
    have e2 : [x] ++ xs = x :: xs := rfl
    rw [e1, e2] at ht
    rw [← ht]; simp [List.idxOf_cons]
end Named
end K63
/-! K63Math2: readers, least readers by two roads, what is shown. Plain Lean. -/
namespace K63

/-- a reader: base, moves, shows -/
structure Rd where
  b : Nat
  mv : List (List Nat)
  sh : List Nat
  deriving DecidableEq
def Rd.row (R : Rd) (p : Nat) : List Nat := R.mv.getD p []
def Rd.show (R : Rd) (p : Nat) : Nat := R.sh.getD p 0
/-- as is_reader asks, but for the first move -/
structure Rd.Ok (R : Rd) : Prop where
  base : 2 ≤ R.b
  pos : 0 < R.mv.length
  wide : ∀ r ∈ R.mv, r.length = R.b
  inn : ∀ r ∈ R.mv, ∀ x ∈ r, x < R.mv.length
  shl : R.sh.length = R.mv.length
structure Rd.Zero (R : Rd) : Prop extends Rd.Ok R where
  zero : (R.row 0)[0]? = some 0

theorem getD_mem {α : Type} {l : List α} {i : Nat} {d : α} (h : i < l.length) : l.getD i d ∈ l := by
  rw [List.getD_eq_getElem?_getD, List.getElem?_eq_getElem h]
  exact List.getElem_mem h
theorem getD_some {α : Type} {l : List α} {i : Nat} {d x : α} (h : l[i]? = some x) : l.getD i d = x := by
  rw [List.getD_eq_getElem?_getD, h]; rfl
theorem get_of_lt {α : Type} {l : List α} {i : Nat} (h : i < l.length) : ∃ x, l[i]? = some x := ⟨l[i], List.getElem?_eq_getElem h⟩

theorem Rd.Ok.row_mem {R : Rd} (h : R.Ok) {p : Nat} (hp : p < R.mv.length) : R.row p ∈ R.mv := getD_mem hp
theorem Rd.Ok.row_len {R : Rd} (h : R.Ok) {p : Nat} (hp : p < R.mv.length) : (R.row p).length = R.b := h.wide _ (h.row_mem hp)
theorem Rd.Ok.row_lt {R : Rd} (h : R.Ok) {p : Nat} (hp : p < R.mv.length) : ∀ x ∈ R.row p, x < R.mv.length := h.inn _ (h.row_mem hp)

/-! ### an abstract machine: rows, shows, a closed set of places -/
structure Mac where
  row : Nat → List Nat
  sh : Nat → Nat
def Rd.mac (R : Rd) : Mac := ⟨R.row, R.show⟩
/-- the places met from place 0 -/
def Mac.ord (M : Mac) (n : Nat) : List Nat := ordAt id M.row 0 n
/-- trimmed: the places as they are met -/
def Mac.trim (M : Mac) (b n : Nat) : Rd := ⟨b, (M.ord n).map fun p => (M.row p).map fun q => (M.ord n).idxOf q, (M.ord n).map M.sh⟩

section
variable {M : Mac} {n : Nat}
theorem Mac.ord_nodup : (M.ord n).Nodup := by
  have := ordAt_nodup id M.row 0 n
  rw [List.map_id] at this
  exact this
theorem Mac.ord_all (P : Nat → Prop) (h0 : P 0) (hs : ∀ p, P p → ∀ x ∈ M.row p, P x) : ∀ x ∈ M.ord n, P x := ordAt_all id M.row 0 P h0 hs n
/-- n is enough: the order has come to its end -/
structure Mac.Done (M : Mac) (n : Nat) : Prop where
  short : (M.ord n).length ≤ n
theorem Mac.done_of (hn : 0 < n) (hr : ∀ p < n, ∀ x ∈ M.row p, x < n) : M.Done n := ⟨length_le_of_lt M.ord_nodup (M.ord_all (fun p => p < n) hn hr)⟩
/-- .. with the places within a list of n -/
theorem Mac.done_in {l : List Nat} (h0 : 0 ∈ l) (hr : ∀ p ∈ l, ∀ x ∈ M.row p, x ∈ l) : M.Done l.length := ⟨length_le_of_nodup _ _ M.ord_nodup (M.ord_all (fun p => p ∈ l) h0 hr)⟩
theorem Mac.Done.closed (D : M.Done n) {p : Nat} (hp : p ∈ M.ord n) : ∀ x ∈ M.row p, x ∈ M.ord n := by
  intro x hx
  obtain ⟨i, hi⟩ := List.getElem?_of_mem hp
  have h1 := (List.getElem?_eq_some_iff.mp hi).1
  have := ordAt_closed id M.row 0 (k := n) (i := i) (Nat.lt_of_lt_of_le h1 D.short) hi x hx
  rw [List.map_id] at this
  exact this
theorem Mac.ord_head : (M.ord n)[0]? = some 0 := ordAt_head id M.row 0 n
theorem Mac.zero_mem : 0 ∈ M.ord n := List.mem_of_getElem? M.ord_head
theorem Mac.ord_pos : 0 < (M.ord n).length := List.length_pos_of_mem M.zero_mem
theorem Mac.Done.stuck (D : M.Done n) {m : Nat} (h : n ≤ m) : M.ord m = M.ord n := ordAt_stuck id M.row 0 D.short m h
/-- the same end, wherever it has come -/
theorem Mac.Done.eq {m : Nat} (D : M.Done n) (D' : M.Done m) : M.ord n = M.ord m := by
  rcases Nat.le_total n m with h | h
  · exact (D.stuck h).symm
  · exact D'.stuck h
theorem idx_head {M : Mac} {n : Nat} : (M.ord n).idxOf 0 = 0 := by
  have h := M.ord_head (n := n)
  cases e : M.ord n with
  | nil => rw [e] at h; simp at h
  | cons a l => rw [e] at h; simp at h; subst h; simp
theorem idx_get {l : List Nat} {p : Nat} (h : p ∈ l) : l[l.idxOf p]? = some p := by
  have h1 := List.idxOf_lt_length_of_mem h
  rw [List.getElem?_eq_getElem h1]; simp
theorem get_idx {l : List Nat} (hn : l.Nodup) {i p : Nat} (h : l[i]? = some p) : l.idxOf p = i := by
  obtain ⟨h1, e⟩ := List.getElem?_eq_some_iff.mp h
  rw [← e]; exact hn.idxOf_getElem i h1
end

/-- two machines whose places answer to each other have one trimmed reader -/
theorem trim_rel {M M' : Mac} {b n n' : Nat} (R : Nat → Nat → Prop) (hk : ∀ x y x' y', R x y → R x' y' → (x = x' ↔ y = y')) (h0 : R 0 0) (hr : ∀ x y, R x y → F2 R (M.row x) (M'.row y)) (hs : ∀ x y, R x y → M.sh x = M'.sh y)
    (D : M.Done n) (D' : M'.Done n') : M.trim b n = M'.trim b n' := by
  have key : F2 R (M.ord (max n n')) (M'.ord (max n n')) := ordAt_rel (key := id) (key' := id) R (fun x y x' y' r r' => hk x y x' y' r r') h0 hr (max n n')
  have e1 : M.ord (max n n') = M.ord n := D.stuck (Nat.le_max_left _ _)
  have e2 : M'.ord (max n n') = M'.ord n' := D'.stuck (Nat.le_max_right _ _)
  rw [e1, e2] at key
  unfold Mac.trim
  have f1 : (M.ord n).map (fun p => (M.row p).map fun q => (M.ord n).idxOf q) = (M'.ord n').map fun p => (M'.row p).map fun q => (M'.ord n').idxOf q :=
    key.map_eq fun x y r => (hr x y r).map_eq fun u v ruv => idxOf_rel R hk key ruv
  rw [f1, key.map_eq hs]

section
variable {M : Mac} {b n : Nat}
theorem trim_row (i : Nat) {p : Nat} (h : (M.ord n)[i]? = some p) : (M.trim b n).row i = (M.row p).map fun q => (M.ord n).idxOf q := by
  unfold Rd.row Mac.trim
  refine getD_some ?_
  rw [List.getElem?_map, h]; rfl
theorem trim_show (i : Nat) {p : Nat} (h : (M.ord n)[i]? = some p) : (M.trim b n).show i = M.sh p := by
  unfold Rd.show Mac.trim
  refine getD_some ?_
  rw [List.getElem?_map, h]; rfl
theorem trim_len : (M.trim b n).mv.length = (M.ord n).length := by simp [Mac.trim]
theorem trim_ok (D : M.Done n) (hb : 2 ≤ b) (hw : ∀ p ∈ M.ord n, (M.row p).length = b) : (M.trim b n).Ok where
  base := hb
  pos := by rw [trim_len]; exact M.ord_pos
  wide := fun r hr => by
    obtain ⟨p, hp, rfl⟩ := List.mem_map.mp hr
    rw [List.length_map]; exact hw p hp
  inn := fun r hr x hx => by
    obtain ⟨p, hp, rfl⟩ := List.mem_map.mp hr
    obtain ⟨q, hq, rfl⟩ := List.mem_map.mp hx
    rw [trim_len]
    exact List.idxOf_lt_length_of_mem (D.closed hp q hq)
  shl := by simp [Mac.trim]
theorem trim_zero (D : M.Done n) (hb : 2 ≤ b) (hw : ∀ p ∈ M.ord n, (M.row p).length = b) (hz : (M.row 0)[0]? = some 0) : (M.trim b n).Zero where
  toOk := trim_ok D hb hw
  zero := by
    rw [trim_row 0 M.ord_head, List.getElem?_map, hz]
    simp [idx_head]
end

/-! ### what a place shows behind digits -/
def Mac.goes (M : Mac) (p : Nat) : List Nat → Nat
  | [] => p
  | d :: w => M.goes ((M.row p).getD d 0) w
def Mac.beh (M : Mac) (p : Nat) (w : List Nat) : Nat := M.sh (M.goes p w)
theorem Mac.goes_append (M : Mac) (p : Nat) (v w : List Nat) : M.goes p (v ++ w) = M.goes (M.goes p v) w := by
  induction v generalizing p with
  | nil => rfl
  | cons d v ih => exact ih _
/-- all words of digits below b -/
def DW (b : Nat) (w : List Nat) : Prop := ∀ d ∈ w, d < b
def BehEq (M M' : Mac) (b : Nat) (p q : Nat) : Prop := ∀ w, DW b w → M.beh p w = M'.beh q w
theorem BehEq.show {M M' : Mac} {b p q : Nat} (h : BehEq M M' b p q) : M.sh p = M'.sh q := h [] (fun _ h => by simp at h)
theorem BehEq.step {M M' : Mac} {b p q d : Nat} (h : BehEq M M' b p q) (hd : d < b) : BehEq M M' b ((M.row p).getD d 0) ((M'.row q).getD d 0) := fun w hw =>
  h (d :: w) fun x hx => by
    rcases List.mem_cons.mp hx with rfl | hx
    · exact hd
    · exact hw x hx
theorem BehEq.rows {M M' : Mac} {b p q : Nat} (h : BehEq M M' b p q) (h1 : (M.row p).length = b) (h2 : (M'.row q).length = b) : F2 (BehEq M M' b) (M.row p) (M'.row q) := by
  refine F2.of_get (h1.trans h2.symm) fun i x y hx hy => ?_
  have hi := (List.getElem?_eq_some_iff.mp hx).1
  have := h.step (d := i) (by omega)
  rwa [getD_some hx, getD_some hy] at this
theorem BehEq.symm {M M' : Mac} {b p q : Nat} (h : BehEq M M' b p q) : BehEq M' M b q p := fun w hw => (h w hw).symm
theorem BehEq.trans {M M' M'' : Mac} {b p q r : Nat} (h : BehEq M M' b p q) (h' : BehEq M' M'' b q r) : BehEq M M'' b p r := fun w hw => (h w hw).trans (h' w hw)
/-- a bisimulation -/
theorem beh_of {M M' : Mac} {b : Nat} (Z : Nat → Nat → Prop) (hs : ∀ p q, Z p q → M.sh p = M'.sh q) (hr : ∀ p q d, Z p q → d < b → Z ((M.row p).getD d 0) ((M'.row q).getD d 0)) {p q : Nat} (h : Z p q) : BehEq M M' b p q := by
  intro w
  induction w generalizing p q with
  | nil => intro _; exact hs p q h
  | cons d w ih => exact fun hw => ih (hr p q d h (hw d (by simp))) fun x hx => hw x (by simp [hx])
/-- a trimmed reader shows what the machine shows -/
theorem trim_beh {M : Mac} {b n : Nat} (D : M.Done n) (hw : ∀ p ∈ M.ord n, (M.row p).length = b) {i p : Nat} (h : (M.ord n)[i]? = some p) : BehEq (M.trim b n).mac M b i p := by
  refine beh_of (fun i p => (M.ord n)[i]? = some p) (fun i p h => trim_show i h) (fun i p d h hd => ?_) h
  have hp := List.mem_of_getElem? h
  have hl := hw p hp
  obtain ⟨x, hx⟩ := get_of_lt (l := M.row p) (i := d) (by omega)
  have e : ((M.trim b n).row i).getD d 0 = (M.ord n).idxOf x := by
    refine getD_some ?_
    rw [trim_row i h, List.getElem?_map, hx]; rfl
  show (M.ord n)[((M.trim b n).row i).getD d 0]? = some ((M.row p).getD d 0)
  rw [e, getD_some hx]
  exact idx_get (D.closed hp x (List.mem_of_getElem? hx))

/-! ### the law's least reader: marks -/
def firstLike (o : List Nat) (f : Nat → Nat × List Nat) (p : Nat) : Nat := (o.find? fun q => decide (f q = f p)).getD 0
def marksAt (M : Mac) (o : List Nat) : Nat → Nat → Nat
  | 0 => M.sh
  | k + 1 => firstLike o fun q => (marksAt M o k q, (M.row q).map (marksAt M o k))
def rowMark (M : Mac) (o : List Nat) (k : Nat) (q : Nat) : Nat × List Nat := (marksAt M o k q, (M.row q).map (marksAt M o k))
theorem marksAt_succ (M : Mac) (o : List Nat) (k : Nat) (p : Nat) : marksAt M o (k + 1) p = firstLike o (rowMark M o k) p := rfl
theorem firstLike_mem {o : List Nat} {f : Nat → Nat × List Nat} {p : Nat} (h : p ∈ o) : firstLike o f p ∈ o ∧ f (firstLike o f p) = f p := by
  unfold firstLike
  cases e : o.find? fun q => decide (f q = f p) with
  | none =>
    have := List.find?_eq_none.mp e p h
    simp at this
  | some q =>
    have h1 := List.find?_some e
    exact ⟨List.mem_of_find?_eq_some e, by simpa using h1⟩
theorem firstLike_congr {o : List Nat} {f : Nat → Nat × List Nat} {p q : Nat} (h : f p = f q) : firstLike o f p = firstLike o f q := by
  unfold firstLike; rw [h]
theorem firstLike_iff {o : List Nat} {f : Nat → Nat × List Nat} {p q : Nat} (hp : p ∈ o) (hq : q ∈ o) : firstLike o f p = firstLike o f q ↔ f p = f q :=
  ⟨fun h => (firstLike_mem (f := f) hp).2.symm.trans ((congrArg f h).trans (firstLike_mem (f := f) hq).2), firstLike_congr⟩
/-- the places kept: what is the mark of a place that is met -/
def leastLM (R : Rd) : Mac :=
  let o := R.mac.ord R.mv.length
  ⟨fun p => (R.row p).map (marksAt R.mac o o.length), R.show⟩
def keptL (R : Rd) : List Nat :=
  let o := R.mac.ord R.mv.length
  uniq (o.reverse.map (marksAt R.mac o o.length))
def leastL (R : Rd) : Rd := (leastLM R).trim R.b (keptL R).length

/-! ### the program's least reader: kinds -/
def nextKinds (T : Rd) (ks : List Nat) : List Nat := named ((ks.zip T.mv).map fun p => (p.1, p.2.map fun q => ks.getD q 0))
def kindsAt (T : Rd) : Nat → List Nat
  | 0 => named T.sh
  | k + 1 => nextKinds T (kindsAt T k)
/-- the reader of the kinds, one place each -/
def ofKinds (T : Rd) (ks : List Nat) (c : Nat) : Rd :=
  let firsts := (List.range c).map fun k => ks.idxOf k
  ⟨T.b, firsts.map fun p => (T.row p).map fun q => ks.getD q 0, firsts.map T.show⟩
def Rd.trim (R : Rd) : Rd := R.mac.trim R.b R.mv.length
/-- how many kinds -/
def many (ks : List Nat) : Nat := (uniq ks).length
def leastP (R : Rd) : Rd :=
  let T := R.trim
  let ks := kindsAt T T.mv.length
  (ofKinds T ks (many ks)).trim
end K63
/-! K63Math3: the two least readers are one; what is shown alike has one least reader. Plain Lean. -/
namespace K63
theorem map_iff {α β γ : Type} {f : α → β} {g : α → γ} : ∀ {xs ys : List α}, (∀ x ∈ xs, ∀ y ∈ ys, f x = f y ↔ g x = g y) → (xs.map f = ys.map f ↔ xs.map g = ys.map g)
  | [], [], _ => by simp
  | [], _ :: _, _ => by simp
  | _ :: _, [], _ => by simp
  | x :: xs, y :: ys, h => by
    have h1 := h x (by simp) y (by simp)
    have h2 := map_iff (xs := xs) (ys := ys) (f := f) (g := g) fun u hu v hv => h u (by simp [hu]) v (by simp [hv])
    simp only [List.map_cons, List.cons.injEq]
    rw [h1, h2]
theorem idxOf_first {l : List Nat} {k i : Nat} (h : l[i]? = some k) (hf : ∀ j x, j < i → l[j]? = some x → x ≠ k) : l.idxOf k = i := by
  induction l generalizing i with
  | nil => simp at h
  | cons a as ih =>
    cases i with
    | zero => simp at h; subst h; simp
    | succ i =>
      have ha : a ≠ k := hf 0 a (by omega) rfl
      rw [List.idxOf_cons, beq_eq_false_iff_ne.mpr ha]
      have := ih (i := i) (by simpa using h) fun j x hj hx => hf (j + 1) x (by omega) (by simpa using hx)
      simp [this]
theorem find_first {l : List Nat} {P : Nat → Bool} {r : Nat} (hn : l.Nodup) (h : l.find? P = some r) {j x : Nat} (hj : j < l.idxOf r) (hx : l[j]? = some x) : P x = false := by
  induction l generalizing j with
  | nil => simp at h
  | cons a as ih =>
    by_cases e : a = r
    · subst e; simp at hj
    · rw [List.nodup_cons] at hn
      rw [List.idxOf_cons, beq_eq_false_iff_ne.mpr e] at hj
      simp only [cond_false] at hj
      rw [List.find?_cons] at h
      cases pa : P a with
      | true => rw [pa] at h; simp at h; exact absurd h e
      | false =>
        rw [pa] at h
        cases j with
        | zero => simp at hx; subst hx; exact pa
        | succ j => exact ih hn.2 h (j := j) (by omega) (by simpa using hx)

section
variable {R : Rd}
/-- the places met -/
abbrev Rd.o (R : Rd) : List Nat := R.mac.ord R.mv.length
theorem Rd.Ok.done (h : R.Ok) : R.mac.Done R.mv.length := Mac.done_of h.pos fun p hp x hx => h.row_lt hp x hx
theorem Rd.Ok.o_lt (h : R.Ok) : ∀ p ∈ R.o, p < R.mv.length := R.mac.ord_all (fun p => p < R.mv.length) h.pos fun p hp x hx => h.row_lt hp x hx
theorem Rd.Ok.o_row (h : R.Ok) : ∀ p ∈ R.o, (R.row p).length = R.b := fun p hp => h.row_len (h.o_lt p hp)
theorem Rd.Ok.trim_ok (h : R.Ok) : R.trim.Ok := K63.trim_ok h.done h.base h.o_row
theorem Rd.trim_len : R.trim.mv.length = R.o.length := K63.trim_len
theorem Rd.trim_sh : R.trim.sh = R.o.map R.show := rfl
theorem Rd.trim_row {i p : Nat} (h : R.o[i]? = some p) : R.trim.row i = (R.row p).map fun q => R.o.idxOf q := K63.trim_row i h
theorem Rd.trim_mv {i p : Nat} (h : R.o[i]? = some p) : R.trim.mv[i]? = some ((R.row p).map fun q => R.o.idxOf q) := by
  show (R.o.map fun p => (R.row p).map fun q => R.o.idxOf q)[i]? = _
  rw [List.getElem?_map, h]; rfl
theorem Rd.trim_show {i p : Nat} (h : R.o[i]? = some p) : R.trim.show i = R.show p := K63.trim_show i h

/-! ### kinds -/
/-- what is named at a level -/
def kindsOf (T : Rd) (ks : List Nat) : List (Nat × List Nat) := (ks.zip T.mv).map fun p => (p.1, p.2.map fun q => ks.getD q 0)
theorem nextKinds_eq (T : Rd) (ks : List Nat) : nextKinds T ks = named (kindsOf T ks) := rfl
theorem kinds_len {T : Rd} (h : T.Ok) : ∀ k, (kindsAt T k).length = T.mv.length
  | 0 => by rw [show kindsAt T 0 = named T.sh from rfl, named_length, h.shl]
  | k + 1 => by
    rw [show kindsAt T (k + 1) = nextKinds T (kindsAt T k) from rfl, nextKinds_eq, named_length]
    simp [kindsOf, kinds_len h k]
theorem kindsOf_fst {T : Rd} {ks : List Nat} (h : ks.length = T.mv.length) : (kindsOf T ks).map (·.1) = ks := by
  unfold kindsOf
  rw [List.map_map]
  refine List.ext_getElem? fun i => ?_
  rw [List.getElem?_map]
  cases e : ks[i]? with
  | none =>
    have h1 := List.getElem?_eq_none_iff.mp e
    rw [List.getElem?_eq_none (by rw [List.length_zip]; omega)]; rfl
  | some x =>
    have h1 := (List.getElem?_eq_some_iff.mp e).1
    obtain ⟨r, hr⟩ := get_of_lt (l := T.mv) (i := i) (by omega)
    rw [List.getElem?_zip_eq_some (z := (x, r)).mpr ⟨e, hr⟩]; rfl
theorem kindsOf_get {T : Rd} {ks : List Nat} {i x : Nat} {r : List Nat} (hx : ks[i]? = some x) (hr : T.mv[i]? = some r) : (kindsOf T ks)[i]? = some (x, r.map fun q => ks.getD q 0) := by
  unfold kindsOf
  rw [List.getElem?_map, List.getElem?_zip_eq_some (z := (x, r)).mpr ⟨hx, hr⟩]; rfl
theorem many_named {α : Type} [DecidableEq α] (xs : List α) : many (named xs) = (uniq xs).length := by
  unfold many named
  rw [uniq_map _ xs fun x hx y hy e => idxOf_inj (mem_uniq.mpr hx) e, List.length_map]
theorem named_named {α : Type} [DecidableEq α] (xs : List α) : named (named xs) = named xs := by
  show named (xs.map fun x => (uniq xs).idxOf x) = named xs
  exact named_map _ xs fun x hx y hy e => idxOf_inj (mem_uniq.mpr hx) e
theorem kinds_named (T : Rd) : ∀ k, named (kindsAt T k) = kindsAt T k
  | 0 => named_named _
  | k + 1 => named_named _
theorem many_step {T : Rd} (h : T.Ok) (k : Nat) : many (kindsAt T k) ≤ many (kindsAt T (k + 1)) ∧ (many (kindsAt T (k + 1)) ≤ many (kindsAt T k) → kindsAt T (k + 1) = kindsAt T k) := by
  have e1 : many (kindsAt T (k + 1)) = (uniq (kindsOf T (kindsAt T k))).length := many_named _
  have e2 : many (kindsAt T k) = (uniq ((kindsOf T (kindsAt T k)).map (·.1))).length := by rw [kindsOf_fst (kinds_len h k)]; rfl
  obtain ⟨a, b⟩ := uniq_len_le (fun p : Nat × List Nat => p.1) (kindsOf T (kindsAt T k))
  rw [e1, e2]
  refine ⟨a, fun q => ?_⟩
  have inj := b (by omega)
  have := named_map (fun p : Nat × List Nat => p.1) (kindsOf T (kindsAt T k)) inj
  rw [kindsOf_fst (kinds_len h k), kinds_named] at this
  exact this.symm
theorem many_le {T : Rd} (h : T.Ok) (k : Nat) : many (kindsAt T k) ≤ T.mv.length := by
  have := uniq_len (kindsAt T k)
  rw [kinds_len h k] at this
  exact this
theorem many_pos {T : Rd} (h : T.Ok) (k : Nat) : 0 < many (kindsAt T k) := uniq_pos (by rw [kinds_len h k]; exact h.pos)
def Stable (T : Rd) (k : Nat) : Prop := kindsAt T (k + 1) = kindsAt T k
theorem Stable.go {T : Rd} {k : Nat} (h : Stable T k) : ∀ m, k ≤ m → kindsAt T m = kindsAt T k := by
  intro m
  induction m with
  | zero => intro hm; have : k = 0 := by omega
            subst this; rfl
  | succ m ih =>
    intro hm
    by_cases e : k = m + 1
    · subst e; rfl
    · show nextKinds T (kindsAt T m) = _
      rw [ih (by omega)]; exact h
theorem Stable.up {T : Rd} {k m : Nat} (h : Stable T k) (hm : k ≤ m) : Stable T m := by
  unfold Stable
  rw [h.go _ hm, h.go _ (by omega)]
theorem Stable.eq {T : Rd} {j k : Nat} (h : Stable T j) (h' : Stable T k) : kindsAt T j = kindsAt T k := by
  rw [← h.go (max j k) (Nat.le_max_left _ _), ← h'.go (max j k) (Nat.le_max_right _ _)]
theorem stable_end {T : Rd} (h : T.Ok) : Stable T T.mv.length := by
  have : ∀ k, (∃ j, j < k ∧ Stable T j) ∨ k + 1 ≤ many (kindsAt T k) := by
    intro k
    induction k with
    | zero => exact .inr (many_pos h 0)
    | succ k ih =>
      rcases ih with ⟨j, hj, s⟩ | ih
      · exact .inl ⟨j, by omega, s⟩
      · obtain ⟨a, b⟩ := many_step h k
        by_cases q : many (kindsAt T (k + 1)) ≤ many (kindsAt T k)
        · exact .inl ⟨k, by omega, b q⟩
        · exact .inr (by omega)
  rcases this T.mv.length with ⟨j, hj, s⟩ | q
  · exact s.up (by omega)
  · have := many_le h T.mv.length
    omega
/-- where the number of kinds did not grow, the kinds are the last ones -/
theorem kinds_end {T : Rd} (h : T.Ok) {k : Nat} (q : many (kindsAt T (k + 1)) ≤ many (kindsAt T k)) : kindsAt T (k + 1) = kindsAt T T.mv.length ∧ kindsAt T k = kindsAt T T.mv.length := by
  have s : Stable T k := (many_step h k).2 q
  exact ⟨s.trans (s.eq (stable_end h)), s.eq (stable_end h)⟩

/-! ### kinds and marks -/
theorem kinds_marks (h : R.Ok) : ∀ (k : Nat) {i j p q : Nat}, R.o[i]? = some p → R.o[j]? = some q → ((kindsAt R.trim k)[i]? = (kindsAt R.trim k)[j]? ↔ marksAt R.mac R.o k p = marksAt R.mac R.o k q)
  | 0, i, j, p, q, hi, hj => by
    have e1 : R.trim.sh[i]? = some (R.show p) := by rw [Rd.trim_sh, List.getElem?_map, hi]; rfl
    have e2 : R.trim.sh[j]? = some (R.show q) := by rw [Rd.trim_sh, List.getElem?_map, hj]; rfl
    exact named_eq e1 e2
  | k + 1, i, j, p, q, hi, hj => by
    have hT := h.trim_ok
    have len := kinds_len hT k
    rw [Rd.trim_len] at len
    obtain ⟨x, hx⟩ := get_of_lt (l := kindsAt R.trim k) (i := i) (by rw [len]; exact (List.getElem?_eq_some_iff.mp hi).1)
    obtain ⟨y, hy⟩ := get_of_lt (l := kindsAt R.trim k) (i := j) (by rw [len]; exact (List.getElem?_eq_some_iff.mp hj).1)
    have e1 := kindsOf_get hx (Rd.trim_mv hi)
    have e2 := kindsOf_get hy (Rd.trim_mv hj)
    have ih := kinds_marks h k hi hj
    rw [hx, hy] at ih
    have hp : p ∈ R.o := List.mem_of_getElem? hi
    have hq : q ∈ R.o := List.mem_of_getElem? hj
    have hc : ∀ {p : Nat}, p ∈ R.o → ∀ x ∈ R.row p, x ∈ R.o := fun hp => h.done.closed (M := R.mac) hp
    show (named (kindsOf R.trim (kindsAt R.trim k)))[i]? = (named (kindsOf R.trim (kindsAt R.trim k)))[j]? ↔ _
    rw [named_eq e1 e2, marksAt_succ, marksAt_succ, firstLike_iff hp hq]
    unfold rowMark
    rw [Prod.mk.injEq, Prod.mk.injEq, ← ih, Option.some.injEq, List.map_map, List.map_map]
    refine and_congr_right fun _ => map_iff fun u hu v hv => ?_
    have hu' : u ∈ R.o := hc hp u hu
    have hv' : v ∈ R.o := hc hq v hv
    have ihu := kinds_marks h k (idx_get hu') (idx_get hv')
    rw [← ihu]
    show (kindsAt R.trim k).getD (R.o.idxOf u) 0 = (kindsAt R.trim k).getD (R.o.idxOf v) 0 ↔ _
    obtain ⟨a, ha⟩ := get_of_lt (l := kindsAt R.trim k) (i := R.o.idxOf u) (by rw [len]; exact List.idxOf_lt_length_of_mem hu')
    obtain ⟨b, hb⟩ := get_of_lt (l := kindsAt R.trim k) (i := R.o.idxOf v) (by rw [len]; exact List.idxOf_lt_length_of_mem hv')
    rw [getD_some ha, getD_some hb, ha, hb, Option.some.injEq]

/-! ### marks and what is shown -/
abbrev Rd.mrk (R : Rd) : Nat → Nat := marksAt R.mac R.o R.o.length
theorem Rd.o_pos : 0 < R.o.length := Mac.ord_pos
theorem mk_eq (R : Rd) : ∃ m, R.o.length = m + 1 ∧ ∀ p, R.mrk p = firstLike R.o (rowMark R.mac R.o m) p := by
  have := Rd.o_pos (R := R)
  refine ⟨R.o.length - 1, by omega, fun p => ?_⟩
  show marksAt R.mac R.o R.o.length p = _
  have e : R.o.length = (R.o.length - 1) + 1 := by omega
  rw [e, marksAt_succ]
  rfl
theorem mk_mem (R : Rd) {p : Nat} (hp : p ∈ R.o) : R.mrk p ∈ R.o := by
  obtain ⟨m, _, e⟩ := mk_eq R
  rw [e]; exact (firstLike_mem hp).1
theorem mk_mk (R : Rd) {p : Nat} (hp : p ∈ R.o) : R.mrk (R.mrk p) = R.mrk p := by
  obtain ⟨m, _, e⟩ := mk_eq R
  rw [e (R.mrk p)]
  refine Eq.trans (firstLike_congr ?_) (e p).symm
  rw [e p]
  exact (firstLike_mem hp).2
theorem mk_zero (R : Rd) : R.mrk 0 = 0 := by
  obtain ⟨m, _, e⟩ := mk_eq R
  rw [e]
  have h := Mac.ord_head (M := R.mac) (n := R.mv.length)
  unfold firstLike
  generalize hl : R.mac.ord R.mv.length = l at h
  cases l with
  | nil => simp at h
  | cons a l => simp at h; subst h; simp [hl]
theorem marks_down (k : Nat) {p q : Nat} (hp : p ∈ R.o) (hq : q ∈ R.o) (h : marksAt R.mac R.o k p = marksAt R.mac R.o k q) : R.show p = R.show q := by
  induction k with
  | zero => exact h
  | succ k ih =>
    rw [marksAt_succ, marksAt_succ, firstLike_iff hp hq] at h
    exact ih (Prod.mk.inj h).1
theorem mk_rows (h : R.Ok) {p q : Nat} (hp : p ∈ R.o) (hq : q ∈ R.o) (e : R.mrk p = R.mrk q) : (R.row p).map R.mrk = (R.row q).map R.mrk := by
  have hT := h.trim_ok
  have st : Stable R.trim R.o.length := by
    have := stable_end hT
    rwa [Rd.trim_len] at this
  have e1 := (kinds_marks h R.o.length (idx_get hp) (idx_get hq)).mpr e
  rw [← st] at e1
  have e2 := (kinds_marks h (R.o.length + 1) (idx_get hp) (idx_get hq)).mp e1
  rw [marksAt_succ, marksAt_succ, firstLike_iff hp hq] at e2
  exact (Prod.mk.inj e2).2
theorem getD_map {f : Nat → Nat} {l : List Nat} {d : Nat} (h : d < l.length) : (l.map f).getD d 0 = f (l.getD d 0) := by
  obtain ⟨x, hx⟩ := get_of_lt h
  rw [getD_some hx]
  refine getD_some ?_
  rw [List.getElem?_map, hx]; rfl
theorem Rd.Ok.go_mem (h : R.Ok) {p d : Nat} (hp : p ∈ R.o) (hd : d < R.b) : (R.row p).getD d 0 ∈ R.o := by
  have hl := h.o_row p hp
  exact h.done.closed (M := R.mac) hp _ (getD_mem (by show d < (R.row p).length; omega))
theorem mk_step (h : R.Ok) {p q d : Nat} (hp : p ∈ R.o) (hq : q ∈ R.o) (e : R.mrk p = R.mrk q) (hd : d < R.b) : R.mrk ((R.row p).getD d 0) = R.mrk ((R.row q).getD d 0) := by
  have := mk_rows h hp hq e
  have h1 := h.o_row p hp
  have h2 := h.o_row q hq
  rw [← getD_map (f := R.mrk) (by omega), ← getD_map (f := R.mrk) (by omega), this]
theorem mk_beh (h : R.Ok) {p q : Nat} (hp : p ∈ R.o) (hq : q ∈ R.o) (e : R.mrk p = R.mrk q) : BehEq R.mac R.mac R.b p q :=
  beh_of (fun p q => p ∈ R.o ∧ q ∈ R.o ∧ R.mrk p = R.mrk q) (fun p q z => marks_down R.o.length z.1 z.2.1 z.2.2) (fun p q d z hd => ⟨h.go_mem z.1 hd, h.go_mem z.2.1 hd, mk_step h z.1 z.2.1 z.2.2 hd⟩) ⟨hp, hq, e⟩
theorem beh_marks (h : R.Ok) : ∀ (k : Nat) {p q : Nat}, p ∈ R.o → q ∈ R.o → BehEq R.mac R.mac R.b p q → marksAt R.mac R.o k p = marksAt R.mac R.o k q
  | 0, p, q, _, _, e => e.show
  | k + 1, p, q, hp, hq, e => by
    rw [marksAt_succ, marksAt_succ, firstLike_iff hp hq]
    unfold rowMark
    rw [beh_marks h k hp hq e]
    refine congrArg (Prod.mk _) ?_
    refine ((e.rows (h.o_row p hp) (h.o_row q hq)).mono_mem (R' := fun x y => marksAt R.mac R.o k x = marksAt R.mac R.o k y) fun x hx y hy r => ?_).map_eq fun _ _ z => z
    exact beh_marks h k (h.done.closed (M := R.mac) hp x hx) (h.done.closed (M := R.mac) hq y hy) r
theorem mk_iff (h : R.Ok) {p q : Nat} (hp : p ∈ R.o) (hq : q ∈ R.o) : R.mrk p = R.mrk q ↔ BehEq R.mac R.mac R.b p q := ⟨mk_beh h hp hq, beh_marks h _ hp hq⟩

/-! ### the law's least reader -/
theorem leastLM_row (p : Nat) : (leastLM R).row p = (R.row p).map R.mrk := rfl
theorem leastLM_sh (p : Nat) : (leastLM R).sh p = R.show p := rfl
theorem mem_kept {r : Nat} : r ∈ keptL R ↔ ∃ p ∈ R.o, R.mrk p = r := by
  unfold keptL
  rw [mem_uniq, List.mem_map]
  simp only [List.mem_reverse]
theorem kept_o {r : Nat} (h : r ∈ keptL R) : r ∈ R.o ∧ R.mrk r = r := by
  obtain ⟨p, hp, rfl⟩ := mem_kept.mp h
  exact ⟨mk_mem R hp, mk_mk R hp⟩
theorem zero_kept (R : Rd) : 0 ∈ keptL R := mem_kept.mpr ⟨0, Mac.zero_mem, mk_zero R⟩
theorem Rd.Ok.doneL (h : R.Ok) : (leastLM R).Done (keptL R).length := Mac.done_in (zero_kept R) fun p hp x hx => by
  rw [leastLM_row] at hx
  obtain ⟨y, hy, rfl⟩ := List.mem_map.mp hx
  exact mem_kept.mpr ⟨y, h.done.closed (M := R.mac) (kept_o hp).1 y hy, rfl⟩
theorem Rd.Ok.ordL (h : R.Ok) : ∀ p ∈ (leastLM R).ord (keptL R).length, p ∈ keptL R := (leastLM R).ord_all (fun p => p ∈ keptL R) (zero_kept R) fun p hp x hx => by
  rw [leastLM_row] at hx
  obtain ⟨y, hy, rfl⟩ := List.mem_map.mp hx
  exact mem_kept.mpr ⟨y, h.done.closed (M := R.mac) (kept_o hp).1 y hy, rfl⟩
theorem Rd.Ok.wideL (h : R.Ok) : ∀ p ∈ (leastLM R).ord (keptL R).length, ((leastLM R).row p).length = R.b := fun p hp => by
  rw [leastLM_row, List.length_map]
  exact h.o_row p (kept_o (h.ordL p hp)).1
theorem leastL_ok (h : R.Ok) : (leastL R).Ok := trim_ok h.doneL h.base h.wideL
theorem leastL_zero (h : R.Zero) : (leastL R).Zero := trim_zero h.toOk.doneL h.base h.toOk.wideL (by
  rw [leastLM_row, List.getElem?_map, h.zero]
  show some (R.mrk 0) = some 0
  rw [mk_zero])
theorem leastLM_beh (h : R.Ok) : BehEq (leastLM R) R.mac R.b 0 0 :=
  beh_of (fun r p => r ∈ R.o ∧ p ∈ R.o ∧ R.mrk r = R.mrk p) (fun r p z => marks_down R.o.length z.1 z.2.1 z.2.2) (fun r p d z hd => by
    have hl := h.o_row r z.1
    have e : ((leastLM R).row r).getD d 0 = R.mrk ((R.row r).getD d 0) := getD_map (by omega)
    rw [e]
    have hm := h.go_mem z.1 hd
    exact ⟨mk_mem R hm, h.go_mem z.2.1 hd, (mk_mk R hm).trans (mk_step h z.1 z.2.1 z.2.2 hd)⟩) ⟨Mac.zero_mem, Mac.zero_mem, rfl⟩
/-- the least reader shows what the reader shows -/
theorem leastL_beh (h : R.Ok) : BehEq (leastL R).mac R.mac R.b 0 0 := (trim_beh (b := R.b) h.doneL h.wideL (i := 0) (p := 0) Mac.ord_head).trans (leastLM_beh h)
/-- readers that show the same have one least reader -/
theorem leastL_of_beh {R' : Rd} (h : R.Ok) (h' : R'.Ok) (hb : R.b = R'.b) (e : BehEq R.mac R'.mac R.b 0 0) : leastL R = leastL R' := by
  unfold leastL
  rw [← hb]
  refine trim_rel (fun r s => r ∈ keptL R ∧ s ∈ keptL R' ∧ BehEq R.mac R'.mac R.b r s) (fun x y x' y' z z' => ?_) ⟨zero_kept R, zero_kept R', e⟩ (fun x y z => ?_) (fun x y z => z.2.2.show) h.doneL h'.doneL
  · have k1 := kept_o z.1
    have k2 := kept_o z.2.1
    have k3 := kept_o z'.1
    have k4 := kept_o z'.2.1
    constructor
    · rintro rfl
      have := z.2.2.symm.trans z'.2.2
      rw [hb] at this
      rw [← k2.2, ← k4.2]
      exact (mk_iff h' k2.1 k4.1).mpr this
    · rintro rfl
      have := z.2.2.trans z'.2.2.symm
      rw [← k1.2, ← k3.2]
      exact (mk_iff h k1.1 k3.1).mpr this
  · have k1 := kept_o z.1
    have k2 := kept_o z.2.1
    rw [leastLM_row, leastLM_row]
    refine (F2.mono_mem (z.2.2.rows (h.o_row x k1.1) ((h'.o_row y k2.1).trans hb.symm)) fun u hu v hv r => ?_).map (R := fun u v => u ∈ R.o ∧ v ∈ R'.o ∧ BehEq R.mac R'.mac R.b u v) fun u v q => ?_
    · exact ⟨h.done.closed (M := R.mac) k1.1 u hu, h'.done.closed (M := R'.mac) k2.1 v hv, r⟩
    · refine ⟨mem_kept.mpr ⟨u, q.1, rfl⟩, mem_kept.mpr ⟨v, q.2.1, rfl⟩, ?_⟩
      have a := mk_beh h (mk_mem R q.1) q.1 (mk_mk R q.1)
      have b := mk_beh h' (mk_mem R' q.2.1) q.2.1 (mk_mk R' q.2.1)
      rw [← hb] at b
      exact (a.trans q.2.2).trans b.symm

/-! ### both least readers are one -/
theorem ofKinds_len {T : Rd} {ks : List Nat} {c : Nat} : (ofKinds T ks c).mv.length = c := by simp [ofKinds]
theorem ofKinds_row {T : Rd} {ks : List Nat} {c k : Nat} (h : k < c) : (ofKinds T ks c).row k = (T.row (ks.idxOf k)).map fun q => ks.getD q 0 := by
  unfold Rd.row ofKinds
  refine getD_some ?_
  simp only [List.map_map, List.getElem?_map]
  rw [List.getElem?_range h]; rfl
theorem ofKinds_show {T : Rd} {ks : List Nat} {c k : Nat} (h : k < c) : (ofKinds T ks c).show k = T.show (ks.idxOf k) := by
  unfold Rd.show ofKinds
  refine getD_some ?_
  simp only [List.map_map, List.getElem?_map]
  rw [List.getElem?_range h]; rfl
/-- the last kinds -/
abbrev Rd.ks (R : Rd) : List Nat := kindsAt R.trim R.trim.mv.length
theorem ks_len (h : R.Ok) : R.ks.length = R.o.length := by rw [kinds_len h.trim_ok, Rd.trim_len]
theorem ks_marks (h : R.Ok) {p q : Nat} (hp : p ∈ R.o) (hq : q ∈ R.o) : R.ks.getD (R.o.idxOf p) 0 = R.ks.getD (R.o.idxOf q) 0 ↔ R.mrk p = R.mrk q := by
  have len := ks_len h
  obtain ⟨a, ha⟩ := get_of_lt (l := R.ks) (i := R.o.idxOf p) (by rw [len]; exact List.idxOf_lt_length_of_mem hp)
  obtain ⟨b, hb⟩ := get_of_lt (l := R.ks) (i := R.o.idxOf q) (by rw [len]; exact List.idxOf_lt_length_of_mem hq)
  have := kinds_marks h R.trim.mv.length (idx_get hp) (idx_get hq)
  rw [ha, hb, Rd.trim_len, Option.some.injEq] at this
  rw [getD_some ha, getD_some hb]
  exact this
theorem ks_lt (h : R.Ok) {k : Nat} (hk : k ∈ R.ks) : k < many R.ks := by
  have e := kinds_named R.trim R.trim.mv.length
  have h1 : k ∈ named R.ks := by rw [e]; exact hk
  exact named_lt h1
theorem ks_onto (h : R.Ok) {k : Nat} (hk : k < many R.ks) : k ∈ R.ks := by
  have e := kinds_named R.trim R.trim.mv.length
  have h1 : k ∈ named R.ks := named_onto hk
  rwa [e] at h1
theorem ks_zero (h : R.Ok) : R.ks[0]? = some 0 := by
  have e := kinds_named R.trim R.trim.mv.length
  have := named_zero (xs := R.ks) (by rw [ks_len h]; exact Rd.o_pos)
  rwa [e] at this
theorem ks_first (h : R.Ok) {r : Nat} (hr : r ∈ R.o) (hm : R.mrk r = r) : R.ks.idxOf (R.ks.getD (R.o.idxOf r) 0) = R.o.idxOf r := by
  have len := ks_len h
  obtain ⟨a, ha⟩ := get_of_lt (l := R.ks) (i := R.o.idxOf r) (by rw [len]; exact List.idxOf_lt_length_of_mem hr)
  rw [getD_some ha]
  refine idxOf_first ha fun j x hj hx => ?_
  rintro rfl
  have hjl : j < R.o.length := Nat.lt_trans hj (List.idxOf_lt_length_of_mem hr)
  obtain ⟨q, hq⟩ := get_of_lt hjl
  have hqm := List.mem_of_getElem? hq
  have e1 : R.mrk q = R.mrk r := by
    refine (ks_marks h hqm hr).mp ?_
    rw [get_idx Mac.ord_nodup hq, getD_some hx, getD_some ha]
  obtain ⟨m, _, e⟩ := mk_eq R
  have e2 : firstLike R.o (rowMark R.mac R.o m) r = r := (e r).symm.trans hm
  have e3 : rowMark R.mac R.o m q = rowMark R.mac R.o m r := by
    rw [e, e, firstLike_iff hqm hr] at e1; exact e1
  unfold firstLike at e2
  cases f : R.o.find? fun q => decide (rowMark R.mac R.o m q = rowMark R.mac R.o m r) with
  | none =>
    have := List.find?_eq_none.mp f r hr
    simp at this
  | some z =>
    rw [f] at e2
    have : z = r := e2
    subst this
    have := find_first Mac.ord_nodup f hj hq
    simp at this
    exact this e3
theorem ofKinds_in (h : R.Ok) {k : Nat} (hk : k < many R.ks) : R.ks.idxOf k < R.o.length := by
  rw [← ks_len h]; exact List.idxOf_lt_length_of_mem (ks_onto h hk)
theorem ofKinds_entry (h : R.Ok) {k : Nat} (hk : k < many R.ks) : ∀ x ∈ (ofKinds R.trim R.ks (many R.ks)).row k, x < many R.ks := fun x hx => by
  rw [ofKinds_row hk] at hx
  obtain ⟨q, hq, rfl⟩ := List.mem_map.mp hx
  have h1 := ofKinds_in h hk
  have h2 : q < R.trim.mv.length := h.trim_ok.row_lt (by rw [Rd.trim_len]; exact h1) q hq
  refine ks_lt h (getD_mem ?_)
  rw [ks_len h, ← Rd.trim_len]; exact h2
theorem ofKinds_ok (h : R.Ok) : (ofKinds R.trim R.ks (many R.ks)).Ok where
  base := h.base
  pos := by rw [ofKinds_len]; exact many_pos h.trim_ok _
  wide := fun r hr => by
    obtain ⟨k, hk⟩ := List.getElem?_of_mem hr
    have hlt := (List.getElem?_eq_some_iff.mp hk).1
    rw [ofKinds_len] at hlt
    have e : (ofKinds R.trim R.ks (many R.ks)).row k = r := getD_some hk
    rw [← e, ofKinds_row hlt, List.length_map]
    exact h.trim_ok.row_len (by rw [Rd.trim_len]; exact ofKinds_in h hlt)
  inn := fun r hr x hx => by
    obtain ⟨k, hk⟩ := List.getElem?_of_mem hr
    have hlt := (List.getElem?_eq_some_iff.mp hk).1
    rw [ofKinds_len] at hlt ⊢
    have e : (ofKinds R.trim R.ks (many R.ks)).row k = r := getD_some hk
    rw [← e] at hx
    exact ofKinds_entry h hlt x hx
  shl := by simp [ofKinds]
theorem least_eq (h : R.Ok) : leastP R = leastL R := by
  symm
  show (leastLM R).trim R.b (keptL R).length = (ofKinds R.trim R.ks (many R.ks)).mac.trim R.b (ofKinds R.trim R.ks (many R.ks)).mv.length
  rw [ofKinds_len]
  refine trim_rel (fun r k => r ∈ keptL R ∧ R.ks.getD (R.o.idxOf r) 0 = k) (fun x y x' y' z z' => ?_) ⟨zero_kept R, ?_⟩ (fun x y z => ?_) (fun x y z => ?_) h.doneL ?_
  · obtain ⟨z1, rfl⟩ := z
    obtain ⟨z2, rfl⟩ := z'
    have k1 := kept_o z1
    have k2 := kept_o z2
    rw [ks_marks h k1.1 k2.1, k1.2, k2.2]
  · rw [idx_head, getD_some (ks_zero h)]
  · obtain ⟨z1, rfl⟩ := z
    have k1 := kept_o z1
    have hlt : R.ks.getD (R.o.idxOf x) 0 < many R.ks := ks_lt h (getD_mem (by rw [ks_len h]; exact List.idxOf_lt_length_of_mem k1.1))
    show F2 _ ((leastLM R).row x) ((ofKinds R.trim R.ks (many R.ks)).row _)
    rw [leastLM_row, ofKinds_row hlt, ks_first h k1.1 k1.2, Rd.trim_row (idx_get k1.1), List.map_map]
    refine (F2.refl (R := fun a b => a = b ∧ a ∈ R.o) _ fun u hu => ⟨rfl, h.done.closed (M := R.mac) k1.1 u hu⟩).map fun a b q => ?_
    obtain ⟨rfl, q⟩ := q
    refine ⟨mem_kept.mpr ⟨a, q, rfl⟩, ?_⟩
    show R.ks.getD (R.o.idxOf (R.mrk a)) 0 = R.ks.getD (R.o.idxOf a) 0
    exact (ks_marks h (mk_mem R q) q).mpr (mk_mk R q)
  · obtain ⟨z1, rfl⟩ := z
    have k1 := kept_o z1
    have hlt : R.ks.getD (R.o.idxOf x) 0 < many R.ks := ks_lt h (getD_mem (by rw [ks_len h]; exact List.idxOf_lt_length_of_mem k1.1))
    show R.show x = (ofKinds R.trim R.ks (many R.ks)).show _
    rw [ofKinds_show hlt, ks_first h k1.1 k1.2, Rd.trim_show (idx_get k1.1)]
  · exact Mac.done_of (many_pos h.trim_ok _) fun k hk x hx => ofKinds_entry h hk x hx
end
end K63
/-! K63Math4: the parting number, numbers read, both at once. Plain Lean. -/
namespace K63
/-! ### digits -/
def lowD (b : Nat) : Nat → Nat → List Nat
  | 0, _ => []
  | f + 1, n => if n = 0 then [] else (n % b) :: lowD b f (n / b)
theorem lowD_zero (b f : Nat) : lowD b f 0 = [] := by cases f <;> simp [lowD]
theorem lowD_fuel {b : Nat} (hb : 2 ≤ b) : ∀ {f g n : Nat}, n ≤ f → n ≤ g → lowD b f n = lowD b g n
  | 0, g, n, h, _ => by have : n = 0 := by omega
                        subst this; rw [lowD_zero, lowD_zero]
  | f + 1, 0, n, _, h => by have : n = 0 := by omega
                            subst this; rw [lowD_zero, lowD_zero]
  | f + 1, g + 1, n, h1, h2 => by
    unfold lowD
    by_cases e : n = 0
    · rw [if_pos e, if_pos e]
    · rw [if_neg e, if_neg e]
      have : n / b < n := Nat.div_lt_self (by omega) (by omega)
      rw [lowD_fuel hb (f := f) (g := g) (n := n / b) (by omega) (by omega)]
/-- the digits of a number, the lowest first -/
def low (b n : Nat) : List Nat := lowD b n n
theorem low_zero (b : Nat) : low b 0 = [] := rfl
theorem low_step {b n : Nat} (hb : 2 ≤ b) (hn : 0 < n) : low b n = (n % b) :: low b (n / b) := by
  cases n with
  | zero => omega
  | succ m =>
    show lowD b (m + 1) (m + 1) = _
    unfold lowD
    rw [if_neg (by omega)]
    have : (m + 1) / b < m + 1 := Nat.div_lt_self (by omega) (by omega)
    rw [lowD_fuel hb (f := m) (g := (m + 1) / b) (by omega) (Nat.le_refl _)]
    rfl
theorem low_lt {b : Nat} (hb : 2 ≤ b) : ∀ (n : Nat), ∀ d ∈ low b n, d < b := by
  intro n
  induction n using Nat.strongRecOn with
  | ind n ih =>
    intro d hd
    by_cases e : n = 0
    · subst e; simp [low_zero] at hd
    · rw [low_step hb (by omega)] at hd
      rcases List.mem_cons.mp hd with rfl | hd
      · exact Nat.mod_lt _ (by omega)
      · exact ih _ (Nat.div_lt_self (by omega) (by omega)) d hd
/-- where the digits of a number lead -/
def Mac.at (M : Mac) (b n : Nat) : Nat := M.goes 0 (low b n).reverse
def numRead (R : Rd) (n : Nat) : Nat := R.show (R.mac.at R.b n)
theorem Mac.at_step {M : Mac} {b n d : Nat} (hb : 2 ≤ b) (hz : (M.row 0)[0]? = some 0) (hd : d < b) : M.at b (n * b + d) = (M.row (M.at b n)).getD d 0 := by
  by_cases e : n * b + d = 0
  · have hd0 : d = 0 := by omega
    have hn0 : n * b = 0 := by omega
    have : n = 0 := by
      rcases Nat.mul_eq_zero.mp hn0 with h | h
      · exact h
      · omega
    subst this; subst hd0
    show M.goes 0 (low b (0 * b + 0)).reverse = (M.row (M.goes 0 (low b 0).reverse)).getD 0 0
    simp only [Nat.zero_mul, Nat.add_zero, low_zero, List.reverse_nil, Mac.goes]
    rw [getD_some hz]
  · unfold Mac.at
    rw [low_step hb (by omega)]
    have e1 : (n * b + d) % b = d := by
      rw [Nat.add_comm, Nat.add_mul_mod_self_right]; exact Nat.mod_eq_of_lt hd
    have e2 : (n * b + d) / b = n := by
      rw [Nat.add_comm, Nat.add_mul_div_right _ _ (by omega), Nat.div_eq_of_lt hd, Nat.zero_add]
    rw [e1, e2, List.reverse_cons, Mac.goes_append]
    rfl
theorem Rd.Ok.goes_in {R : Rd} (h : R.Ok) : ∀ (w : List Nat) {p : Nat}, p < R.mv.length → DW R.b w → R.mac.goes p w < R.mv.length
  | [], p, hp, _ => hp
  | d :: w, p, hp, hw => by
    refine Rd.Ok.goes_in h w (p := (R.row p).getD d 0) ?_ fun x hx => hw x (by simp [hx])
    have hl := h.row_len hp
    have hd := hw d (by simp)
    exact h.row_lt hp _ (getD_mem (by omega))

/-! ### the parting number -/
abbrev PIt := (Nat × Nat) × Nat
def prow (M N : Mac) (b : Nat) (x : PIt) : List PIt := (List.range b).map fun d => (((M.row x.1.1).getD d 0, (N.row x.1.2).getD d 0), x.2 * b + d)
def pord (M N : Mac) (b k : Nat) : List PIt := ordAt Prod.fst (prow M N b) ((0, 0), 0) k
def partRd (R S : Rd) : Option Nat := ((pord R.mac S.mac R.b (R.mv.length * S.mv.length)).find? fun x => decide (R.show x.1.1 ≠ S.show x.1.2)).map (·.2)
def pairsOf (m n : Nat) : List (Nat × Nat) := (List.range m).flatMap fun i => (List.range n).map fun j => (i, j)
theorem pairsOf_len (m n : Nat) : (pairsOf m n).length = m * n := by
  unfold pairsOf
  rw [List.length_flatMap]
  have : (List.range m).map (fun i => ((List.range n).map fun j => (i, j)).length) = List.replicate m n := by
    rw [List.eq_replicate_iff]
    refine ⟨by simp, fun x hx => ?_⟩
    obtain ⟨i, _, rfl⟩ := List.mem_map.mp hx
    simp
  rw [this, List.sum_replicate_nat]
theorem mem_pairsOf {m n i j : Nat} : (i, j) ∈ pairsOf m n ↔ i < m ∧ j < n := by
  unfold pairsOf
  simp [List.mem_flatMap]
section
variable {R S : Rd}
theorem prow_mem {M N : Mac} {b : Nat} {x y : PIt} (h : y ∈ prow M N b x) : ∃ d, d < b ∧ y = (((M.row x.1.1).getD d 0, (N.row x.1.2).getD d 0), x.2 * b + d) := by
  obtain ⟨d, hd, rfl⟩ := List.mem_map.mp h
  exact ⟨d, List.mem_range.mp hd, rfl⟩
theorem pord_in (h : R.Ok) (h' : S.Ok) (hb : R.b = S.b) (k : Nat) : ∀ x ∈ pord R.mac S.mac R.b k, x.1.1 < R.mv.length ∧ x.1.2 < S.mv.length :=
  ordAt_all Prod.fst _ _ (fun x : PIt => x.1.1 < R.mv.length ∧ x.1.2 < S.mv.length) ⟨h.pos, h'.pos⟩ (fun p hp x hx => by
    obtain ⟨d, hd, rfl⟩ := prow_mem hx
    have l1 := h.row_len hp.1
    have l2 := h'.row_len hp.2
    exact ⟨h.row_lt hp.1 _ (getD_mem (by show d < (R.row _).length; omega)), h'.row_lt hp.2 _ (getD_mem (by show d < (S.row _).length; omega))⟩) k
theorem pord_short (h : R.Ok) (h' : S.Ok) (hb : R.b = S.b) (k : Nat) : (pord R.mac S.mac R.b k).length ≤ R.mv.length * S.mv.length := by
  have := length_le_of_nodup ((pord R.mac S.mac R.b k).map Prod.fst) (pairsOf R.mv.length S.mv.length) (ordAt_nodup Prod.fst _ _ k) fun x hx => by
    obtain ⟨y, hy, rfl⟩ := List.mem_map.mp hx
    have := pord_in h h' hb k y hy
    exact mem_pairsOf.mpr this
  rwa [List.length_map, pairsOf_len] at this
/-- the whole order -/
abbrev pall (R S : Rd) : List PIt := pord R.mac S.mac R.b (R.mv.length * S.mv.length)
theorem pall_closed (h : R.Ok) (h' : S.Ok) (hb : R.b = S.b) {p q n d : Nat} (hm : ((p, q), n) ∈ pall R S) (hd : d < R.b) : ∃ m, (((R.row p).getD d 0, (S.row q).getD d 0), m) ∈ pall R S := by
  obtain ⟨i, hi⟩ := List.getElem?_of_mem hm
  have h1 := (List.getElem?_eq_some_iff.mp hi).1
  have := ordAt_closed Prod.fst (prow R.mac S.mac R.b) ((0, 0), 0) (k := R.mv.length * S.mv.length) (i := i) (Nat.lt_of_lt_of_le h1 (pord_short h h' hb _)) hi
    (((R.row p).getD d 0, (S.row q).getD d 0), n * R.b + d) (List.mem_map.mpr ⟨d, List.mem_range.mpr hd, rfl⟩)
  obtain ⟨y, hy, e⟩ := List.mem_map.mp this
  obtain ⟨yp, m⟩ := y
  exact ⟨m, by have : yp = _ := e
               subst this; exact hy⟩
theorem pall_zero (R S : Rd) : ((0, 0), 0) ∈ pall R S := List.mem_of_getElem? (ordAt_head Prod.fst (prow R.mac S.mac R.b) ((0, 0), 0) _)
/-- every pair of the order is met by some word -/
theorem pord_word (R S : Rd) (k : Nat) : ∀ x ∈ pord R.mac S.mac R.b k, ∃ w, DW R.b w ∧ R.mac.goes 0 w = x.1.1 ∧ S.mac.goes 0 w = x.1.2 :=
  ordAt_all Prod.fst _ _ (fun x : PIt => ∃ w, DW R.b w ∧ R.mac.goes 0 w = x.1.1 ∧ S.mac.goes 0 w = x.1.2) ⟨[], fun _ h => by simp at h, rfl, rfl⟩ (fun p ⟨w, hw, e1, e2⟩ x hx => by
    obtain ⟨d, hd, rfl⟩ := prow_mem hx
    refine ⟨w ++ [d], fun y hy => ?_, ?_, ?_⟩
    · rcases List.mem_append.mp hy with hy | hy
      · exact hw y hy
      · simp at hy; exact hy ▸ hd
    · rw [Mac.goes_append, e1]; rfl
    · rw [Mac.goes_append, e2]; rfl) k
theorem part_none (h : R.Ok) (h' : S.Ok) (hb : R.b = S.b) : partRd R S = none ↔ BehEq R.mac S.mac R.b 0 0 := by
  unfold partRd
  rw [Option.map_eq_none_iff, List.find?_eq_none]
  constructor
  · intro hn
    refine beh_of (fun p q => ∃ n, ((p, q), n) ∈ pall R S) (fun p q ⟨n, hm⟩ => ?_) (fun p q d ⟨n, hm⟩ hd => pall_closed h h' hb hm hd) ⟨0, pall_zero R S⟩
    have := hn _ hm
    have this' : R.show p = S.show q := by simpa using this
    exact this'
  · intro e x hx
    obtain ⟨w, hw, e1, e2⟩ := pord_word R S _ x hx
    have := e w hw
    unfold Mac.beh at this
    rw [e1, e2] at this
    have this' : R.show x.1.1 = S.show x.1.2 := this
    simp [this']
theorem part_least (h : R.Ok) (h' : S.Ok) (hb : R.b = S.b) : partRd R S = none ↔ leastL R = leastL S := by
  rw [part_none h h' hb]
  constructor
  · exact leastL_of_beh h h' hb
  · intro e
    have a := leastL_beh h
    have b := leastL_beh h'
    rw [← e, ← hb] at b
    exact a.symm.trans b
theorem part_own (h : R.Ok) : partRd R (leastL R) = none := (part_none h (leastL_ok h) rfl).mpr (leastL_beh h).symm
/-- the numbers of the order lead to their pairs -/
theorem pord_at (h : R.Zero) (h' : S.Zero) (hb : R.b = S.b) (k : Nat) : ∀ x ∈ pord R.mac S.mac R.b k, R.mac.at R.b x.2 = x.1.1 ∧ S.mac.at R.b x.2 = x.1.2 :=
  ordAt_all Prod.fst _ _ (fun x : PIt => R.mac.at R.b x.2 = x.1.1 ∧ S.mac.at R.b x.2 = x.1.2) ⟨rfl, rfl⟩ (fun p ⟨e1, e2⟩ x hx => by
    obtain ⟨d, hd, rfl⟩ := prow_mem hx
    exact ⟨by rw [Mac.at_step h.base h.zero hd, e1], by rw [Mac.at_step h.base h'.zero hd, e2]⟩) k
theorem part_some (h : R.Zero) (h' : S.Zero) (hb : R.b = S.b) {n : Nat} (e : partRd R S = some n) : numRead R n ≠ numRead S n := by
  unfold partRd at e
  obtain ⟨x, hx, rfl⟩ := Option.map_eq_some_iff.mp e
  have h1 := List.find?_some hx
  have h2 := pord_at h h' hb _ x (List.mem_of_find?_eq_some hx)
  unfold numRead
  rw [← hb, h2.1, h2.2]
  simpa using h1
/-- the numbers stay small -/
theorem expand_get {key : PIt → Nat × Nat} {P : Nat → PIt → Prop} : ∀ {r o : List PIt} {lo : Nat}, lo ≤ o.length → (∀ i x, o[i]? = some x → P i x) → (∀ i x, lo ≤ i → x ∈ r → P i x) → ∀ i x, (expand key o r)[i]? = some x → P i x
  | [], o, lo, _, ho, _, i, x, h => ho i x h
  | y :: r, o, lo, hl, ho, hr, i, x, h => by
    rw [expand_cons] at h
    refine expand_get (lo := lo) (Nat.le_trans hl (addNew_prefix key o y).length_le) (fun j z hz => ?_) (fun j z hj hz => hr j z hj (by simp [hz])) i x h
    unfold addNew at hz
    split at hz
    · exact ho j z hz
    · by_cases e : j < o.length
      · rw [List.getElem?_append_left e] at hz; exact ho j z hz
      · rw [List.getElem?_append_right (by omega)] at hz
        have hj0 : j - o.length = 0 := by
          have := (List.getElem?_eq_some_iff.mp hz).1
          simp at this; omega
        rw [hj0] at hz; simp at hz; subst hz
        exact hr j y (by omega) (by simp)
theorem pord_small (R S : Rd) (hb : 2 ≤ R.b) (k : Nat) : ∀ (i : Nat) (x : PIt), (pord R.mac S.mac R.b k)[i]? = some x → x.2 < R.b ^ i := by
  induction k with
  | zero =>
    intro i x h
    have : pord R.mac S.mac R.b 0 = [((0, 0), 0)] := rfl
    rw [this] at h
    cases i with
    | zero => simp at h; subst h; simp
    | succ i => simp at h
  | succ k ih =>
    intro i x h
    unfold pord at h
    rw [ordAt_succ] at h
    cases hk : (pord R.mac S.mac R.b k)[k]? with
    | none => unfold pord at hk; rw [hk] at h; exact ih i x h
    | some p =>
      have hk' := hk
      unfold pord at hk'
      rw [hk'] at h
      have hlt := (List.getElem?_eq_some_iff.mp hk).1
      refine expand_get (P := fun i x => x.2 < R.b ^ i) (lo := k + 1) hlt ih (fun j y hj hy => ?_) i x h
      obtain ⟨d, hd, rfl⟩ := prow_mem hy
      have hp := ih k p hk
      show p.2 * R.b + d < R.b ^ j
      have h1 : (p.2 + 1) * R.b ≤ R.b ^ k * R.b := Nat.mul_le_mul_right _ hp
      rw [← Nat.pow_succ, show k.succ = k + 1 from rfl] at h1
      have h2 : R.b ^ (k + 1) ≤ R.b ^ j := Nat.pow_le_pow_right (by omega) hj
      rw [Nat.add_mul] at h1
      omega
theorem part_small (h : R.Ok) (h' : S.Ok) (hb : R.b = S.b) {n : Nat} (e : partRd R S = some n) : n < R.b ^ (R.mv.length * S.mv.length) := by
  unfold partRd at e
  obtain ⟨x, hx, rfl⟩ := Option.map_eq_some_iff.mp e
  obtain ⟨i, hi⟩ := List.getElem?_of_mem (List.mem_of_find?_eq_some hx)
  have h1 := pord_small R S h.base _ i x hi
  have h2 := (List.getElem?_eq_some_iff.mp hi).1
  have h3 := pord_short h h' hb (R.mv.length * S.mv.length)
  have := h.base
  exact Nat.lt_of_lt_of_le h1 (Nat.pow_le_pow_right (by omega) (by omega))
/-- the other way about -/
theorem part_comm (h : R.Ok) (h' : S.Ok) (hb : R.b = S.b) : partRd S R = partRd R S := by
  have key : F2 (fun x y : PIt => x.1.1 = y.1.2 ∧ x.1.2 = y.1.1 ∧ x.2 = y.2) (pord S.mac R.mac S.b (S.mv.length * R.mv.length)) (pord R.mac S.mac R.b (R.mv.length * S.mv.length)) := by
    rw [Nat.mul_comm S.mv.length, ← hb]
    refine ordAt_rel _ (fun x y x' y' r r' => ?_) ⟨rfl, rfl, rfl⟩ (fun x y r => ?_) _
    · rw [Prod.ext_iff, Prod.ext_iff, r.1, r.2.1, r'.1, r'.2.1]
      exact And.comm
    · unfold prow
      refine (F2.refl (R := fun a b => a = b) _ fun _ _ => rfl).map fun a b e => ?_
      subst e
      rw [r.1, r.2.1, r.2.2]
      exact ⟨rfl, rfl, rfl⟩
  unfold partRd
  revert key
  generalize pord S.mac R.mac S.b (S.mv.length * R.mv.length) = xs
  generalize pord R.mac S.mac R.b (R.mv.length * S.mv.length) = ys
  intro key
  induction key with
  | nil => rfl
  | @cons a b as bs r _ ih =>
    rw [List.find?_cons, List.find?_cons, r.1, r.2.1]
    have e : decide (S.show b.1.2 ≠ R.show b.1.1) = decide (R.show b.1.1 ≠ S.show b.1.2) := by
      by_cases q : R.show b.1.1 = S.show b.1.2
      · simp [q]
      · simp [q, Ne.symm q]
    rw [e]
    cases decide (R.show b.1.1 ≠ S.show b.1.2) with
    | true => show some a.2 = some b.2; rw [r.2.2]
    | false => exact ih
end

/-! ### both at once -/
def mxl (l : List Nat) : Nat := l.foldl max 0
theorem mxl_foldl : ∀ (l : List Nat) (a : Nat), a ≤ l.foldl max a ∧ (∀ x ∈ l, x ≤ l.foldl max a) ∧ (l.foldl max a = a ∨ l.foldl max a ∈ l)
  | [], a => ⟨Nat.le_refl _, fun _ h => by simp at h, .inl rfl⟩
  | y :: l, a => by
    obtain ⟨h1, h2, h3⟩ := mxl_foldl l (max a y)
    rw [List.foldl_cons]
    refine ⟨by omega, fun x hx => ?_, ?_⟩
    · rcases List.mem_cons.mp hx with rfl | hx
      · omega
      · exact h2 x hx
    · rcases h3 with h3 | h3
      · rw [h3]
        rcases Nat.le_total a y with h | h
        · exact .inr (by rw [Nat.max_eq_right h]; simp)
        · exact .inl (Nat.max_eq_left h)
      · exact .inr (by simp [h3])
theorem mxl_ge {l : List Nat} : ∀ x ∈ l, x ≤ mxl l := (mxl_foldl l 0).2.1
theorem mxl_mem {l : List Nat} (h : 0 < l.length) : mxl l ∈ l := by
  rcases (mxl_foldl l 0).2.2 with e | e
  · cases l with
    | nil => simp at h
    | cons x l =>
      have : x ≤ mxl (x :: l) := mxl_ge x (by simp)
      have e' : mxl (x :: l) = 0 := e
      have : x = 0 := by omega
      rw [e']; subst this; simp
  · exact e
theorem mxl_unique {l : List Nat} {m : Nat} (h : m ∈ l) (h' : ∀ x ∈ l, x ≤ m) : m = mxl l := by
  have h1 := mxl_ge m h
  have h2 := h' _ (mxl_mem (List.length_pos_of_mem h))
  omega
def bothRd (R S : Rd) : Rd :=
  ⟨R.b, (pairsOf R.mv.length S.mv.length).map fun p => List.zipWith (fun a c => a * S.mv.length + c) (R.row p.1) (S.row p.2),
    (pairsOf R.mv.length S.mv.length).map fun p => R.show p.1 * (1 + mxl S.sh) + S.show p.2⟩
theorem both_len (R S : Rd) : (bothRd R S).mv.length = R.mv.length * S.mv.length := by simp [bothRd, pairsOf_len]
theorem both_ok {R S : Rd} (h : R.Ok) (h' : S.Ok) (hb : R.b = S.b) : (bothRd R S).Ok where
  base := h.base
  pos := by rw [both_len]; exact Nat.mul_pos h.pos h'.pos
  wide := fun r hr => by
    obtain ⟨p, hp, rfl⟩ := List.mem_map.mp hr
    obtain ⟨i, j⟩ := p
    have hp' := mem_pairsOf.mp hp
    have l1 := h.row_len hp'.1
    have l2 := h'.row_len hp'.2
    rw [List.length_zipWith, l1, l2, ← hb]
    exact Nat.min_self _
  inn := fun r hr x hx => by
    obtain ⟨p, hp, rfl⟩ := List.mem_map.mp hr
    obtain ⟨i, j⟩ := p
    have hp' := mem_pairsOf.mp hp
    obtain ⟨k, hk⟩ := List.getElem?_of_mem hx
    rw [List.getElem?_zipWith] at hk
    rw [both_len]
    cases e1 : (R.row i)[k]? with
    | none => simp only [e1] at hk; cases hk
    | some a =>
      cases e2 : (S.row j)[k]? with
      | none => simp only [e1, e2] at hk; cases hk
      | some c =>
        simp only [e1, e2] at hk
        have ha := h.row_lt hp'.1 a (List.mem_of_getElem? e1)
        have hc := h'.row_lt hp'.2 c (List.mem_of_getElem? e2)
        have hx' : a * S.mv.length + c = x := Option.some.inj hk
        rw [← hx']
        have : (a + 1) * S.mv.length ≤ R.mv.length * S.mv.length := Nat.mul_le_mul_right _ ha
        rw [Nat.add_mul] at this
        omega
  shl := by simp [bothRd]
end K63
/-! K63Lay1: values as data that never changes (Di); what evaluates to which data (EvD), to which new list (EvL). -/
namespace K63
open PySem PySem.Spec PyProof.Rows L2

/-! ### data -/
mutual
inductive Di (K : PySem.W.Frag) (H : Hp) : V → PyData → Prop
  | non : Di K H .non .none
  | bl (b : Bool) : Di K H (.bl b) (.bool b)
  | int (i : Int) : Di K H (.int i) (.int i)
  | str (x : Str) : Di K H (.str x) (.str x)
  | tup {a : Addr} {xs : List V} {ds : List PyData} : SqT K H a xs → DiAll K H xs ds → Di K H (.ref a) (.tuple ds)
inductive DiAll (K : PySem.W.Frag) (H : Hp) : List V → List PyData → Prop
  | nil : DiAll K H [] []
  | cons {v : V} {vs : List V} {d : PyData} {ds : List PyData} : Di K H v d → DiAll K H vs ds → DiAll K H (v :: vs) (d :: ds)
end
/-- tuples stay -/
def Tx (H H' : Hp) : Prop := ∀ a xs, L2.Rd H a (.tup xs) → L2.Rd H' a (.tup xs)
section
variable {K : PySem.W.Frag} {H H' H1 H2 : Hp} {v : V} {vs : List V} {d : PyData} {ds : List PyData} {p a : Addr}
theorem same_rd {u : HO} (e : Same H H') (h : L2.Rd H a u) : L2.Rd H' a u := h.elim (fun z => .inl (e _ _ z)) fun ⟨o, z⟩ => .inr ⟨o, e _ _ z⟩
theorem Same.tx (e : Same H H') : Tx H H' := fun _ _ h => same_rd e h
theorem Tx.refl (H : Hp) : Tx H H := fun _ _ h => h
theorem Tx.trans (a : Tx H H1) (b : Tx H1 H2) : Tx H H2 := fun c xs h => b c xs (a c xs h)
/-- no tuple stands at p -/
def NoTup (H : Hp) (p : Addr) : Prop := ∀ xs, ¬ L2.Rd H p (.tup xs)
theorem NoTup.lst {xs : List V} (h : H p = some (.lst xs)) : NoTup H p := fun ys r => by
  rcases r with r | ⟨o, r⟩ <;> rw [h] at r <;> cases r
theorem NoTup.dK {kvs : List (Key × V)} (h : H p = some (.dK kvs)) : NoTup H p := fun ys r => by
  rcases r with r | ⟨o, r⟩ <;> rw [h] at r <;> cases r
theorem NoTup.ext {φ : Heap → Prop} (h : H p = some (.ext φ)) : NoTup H p := fun ys r => by
  rcases r with r | ⟨o, r⟩ <;> rw [h] at r <;> cases r
theorem NoTup.none (h : H p = none) : NoTup H p := fun ys r => by
  rcases r with r | ⟨o, r⟩ <;> rw [h] at r <;> cases r
theorem Tx.upd {o : HO} (h : NoTup H p) : Tx H (L2.upd H p o) := fun a xs r => by
  have ne : a ≠ p := fun e => h xs (e ▸ r)
  rcases r with r | ⟨u, r⟩
  · exact .inl (by rw [upd_ne ne]; exact r)
  · exact .inr ⟨u, by rw [upd_ne ne]; exact r⟩
theorem Same.new {o : HO} (h : H p = Option.none) : Same H (L2.upd H p o) := fun b u e => by rw [upd_ne (ne_of_none e h)]; exact e
/-- what H does not know may change -/
theorem Same.mut {o : HO} (e : Same H H') (h : H p = Option.none) : Same H (L2.upd H' p o) := fun b u z => by rw [upd_ne (ne_of_none z h)]; exact e b u z
theorem Tx.sq {xs : List V} (t : Tx H H') (h : SqT K H a xs) : SqT K H' a xs := h.elim (fun z => .inl (t _ _ z)) .inr
mutual
theorem Di.mono (t : Tx H H') : ∀ (d : PyData) (v : V), Di K H v d → Di K H' v d
  | .none, _, h => by cases h; exact .non
  | .bool b, _, h => by cases h; exact .bl b
  | .int i, _, h => by cases h; exact .int i
  | .str x, _, h => by cases h; exact .str x
  | .tuple ds, _, h => by
    cases h with
    | tup h1 h2 => exact .tup (t.sq h1) (DiAll.mono t ds _ h2)
  | .list _, _, h => nomatch h
  | .dict _, _, h => nomatch h
theorem DiAll.mono (t : Tx H H') : ∀ (ds : List PyData) (vs : List V), DiAll K H vs ds → DiAll K H' vs ds
  | [], _, h => by cases h; exact .nil
  | d :: ds, _, h => by
    cases h with
    | cons h1 h2 => exact .cons (Di.mono t d _ h1) (DiAll.mono t ds _ h2)
end
theorem Di.tx (h : Di K H v d) (t : Tx H H') : Di K H' v d := Di.mono t _ _ h
theorem Di.to (h : Di K H v d) (e : Same H H') : Di K H' v d := h.tx (Same.tx e)
theorem DiAll.tx (h : DiAll K H vs ds) (t : Tx H H') : DiAll K H' vs ds := DiAll.mono t _ _ h
theorem DiAll.to (h : DiAll K H vs ds) (e : Same H H') : DiAll K H' vs ds := h.tx (Same.tx e)
theorem Di.inv_int {i : Int} (h : Di K H v (.int i)) : v = .int i := by cases h; rfl
theorem Di.inv_bl {b : Bool} (h : Di K H v (.bool b)) : v = .bl b := by cases h; rfl
theorem Di.inv_non (h : Di K H v .none) : v = .non := by cases h; rfl
theorem Di.inv_str {x : Str} (h : Di K H v (.str x)) : v = .str x := by cases h; rfl
theorem Di.inv_tup (h : Di K H v (.tuple ds)) : ∃ a xs, v = .ref a ∧ SqT K H a xs ∧ DiAll K H xs ds := by
  cases h with
  | tup h1 h2 => exact ⟨_, _, rfl, h1, h2⟩
theorem DiAll.len (h : DiAll K H vs ds) : vs.length = ds.length := by
  induction ds generalizing vs with
  | nil => cases h; rfl
  | cons d ds ih =>
    cases h with
    | cons h1 h2 => simp [ih h2]
theorem DiAll.get (h : DiAll K H vs ds) {i : Nat} (e : ds[i]? = some d) : ∃ v, vs[i]? = some v ∧ Di K H v d := by
  induction ds generalizing vs i with
  | nil => simp at e
  | cons d ds ih =>
    cases h with
    | cons h1 h2 =>
      cases i with
      | zero => simp at e; subst e; exact ⟨_, rfl, h1⟩
      | succ i =>
        obtain ⟨u, e1, e2⟩ := ih h2 (by simpa using e)
        exact ⟨u, by simpa using e1, e2⟩
theorem DiAll.at {i : Nat} (h : DiAll K H vs ds) (e : vs[i]? = some v) : ∃ d, ds[i]? = some d ∧ Di K H v d := by
  have hl := h.len
  have hi := (List.getElem?_eq_some_iff.mp e).1
  have e2 : ds[i]? = some ds[i] := List.getElem?_eq_getElem (by omega)
  obtain ⟨u, e1, r⟩ := h.get e2
  rw [e] at e1; cases e1
  exact ⟨_, e2, r⟩
theorem DiAll.append {ws : List V} {es : List PyData} (h : DiAll K H vs ds) (h' : DiAll K H ws es) : DiAll K H (vs ++ ws) (ds ++ es) := by
  induction ds generalizing vs with
  | nil => cases h; exact h'
  | cons d ds ih =>
    cases h with
    | cons h1 h2 => exact .cons h1 (ih h2)
theorem DiAll.one (h : Di K H v d) : DiAll K H [v] [d] := .cons h .nil
theorem DiAll.snoc (h : DiAll K H vs ds) (h' : Di K H v d) : DiAll K H (vs ++ [v]) (ds ++ [d]) := h.append (.one h')
theorem DiAll.inv1 (h : DiAll K H vs [d]) : ∃ v, vs = [v] ∧ Di K H v d := by
  cases h with
  | cons h1 h2 => cases h2; exact ⟨_, rfl, h1⟩
theorem DiAll.inv2 {d' : PyData} (h : DiAll K H vs [d, d']) : ∃ v w, vs = [v, w] ∧ Di K H v d ∧ Di K H w d' := by
  cases h with
  | cons h1 h2 => obtain ⟨w, rfl, h3⟩ := h2.inv1; exact ⟨_, w, rfl, h1, h3⟩
theorem DiAll.inv3 {d' d'' : PyData} (h : DiAll K H vs [d, d', d'']) : ∃ v w u, vs = [v, w, u] ∧ Di K H v d ∧ Di K H w d' ∧ Di K H u d'' := by
  cases h with
  | cons h1 h2 => obtain ⟨w, u, rfl, h3, h4⟩ := h2.inv2; exact ⟨_, w, u, rfl, h1, h3, h4⟩
theorem DiAll.of_get (hl : vs.length = ds.length) (h : ∀ (i : Nat) (v : V) (d : PyData), vs[i]? = some v → ds[i]? = some d → Di K H v d) : DiAll K H vs ds := by
  induction ds generalizing vs with
  | nil => cases vs with
    | nil => exact .nil
    | cons _ _ => simp at hl
  | cons d ds ih => cases vs with
    | nil => simp at hl
    | cons v vs => exact .cons (h 0 v d rfl rfl) (ih (by simpa using hl) fun i v d h1 h2 => h (i + 1) v d (by simpa using h1) (by simpa using h2))
mutual
theorem Di.dp : ∀ (d : PyData) (v : V), Di K H v d → Dp K H v d
  | .none, _, h => by cases h; exact .non
  | .bool b, _, h => by cases h; exact .bl b
  | .int i, _, h => by cases h; exact .int i
  | .str x, _, h => by cases h; exact .str x
  | .tuple ds, _, h => by
    cases h with
    | tup h1 h2 => exact .tup h1 (DiAll.dp ds _ h2)
  | .list _, _, h => nomatch h
  | .dict _, _, h => nomatch h
theorem DiAll.dp : ∀ (ds : List PyData) (vs : List V), DiAll K H vs ds → DpAll K H vs ds
  | [], _, h => by cases h; exact .nil
  | d :: ds, _, h => by
    cases h with
    | cons h1 h2 => exact .cons (Di.dp d _ h1) (DiAll.dp ds _ h2)
end
end

/-! ### whole numbers that are not negative; tuples of them; readers -/
abbrev vN (n : Nat) : V := .int (n : Int)
abbrev nI (n : Nat) : PyData := .int (n : Int)
def tI (ns : List Nat) : PyData := .tuple (ns.map nI)
def tII (rs : List (List Nat)) : PyData := .tuple (rs.map tI)
def tR (R : Rd) : PyData := .tuple [nI R.b, tII R.mv, tI R.sh]
section
variable {K : PySem.W.Frag} {H : Hp} {vs : List V}
theorem diAll_ints : ∀ {ns : List Nat} {vs : List V}, DiAll K H vs (ns.map nI) → vs = ns.map vN
  | [], _, h => by cases h; rfl
  | n :: ns, _, h => by
    cases h with
    | cons h1 h2 => rw [h1.inv_int, diAll_ints h2]; rfl
theorem diAll_of_ints : ∀ (ns : List Nat), DiAll K H (ns.map vN) (ns.map nI)
  | [] => .nil
  | n :: ns => .cons (.int _) (diAll_of_ints ns)
theorem Di.inv_I {v : V} {ns : List Nat} (h : Di K H v (tI ns)) : ∃ a, v = .ref a ∧ SqT K H a (ns.map vN) := by
  obtain ⟨a, xs, rfl, h1, h2⟩ := h.inv_tup
  rw [diAll_ints h2] at h1
  exact ⟨a, rfl, h1⟩
theorem Di.of_I {a : Addr} {ns : List Nat} (h : SqT K H a (ns.map vN)) : Di K H (.ref a) (tI ns) := .tup h (diAll_of_ints ns)
end

/-! ### what evaluates to what -/
def EvD (K : PySem.W.Frag) (te : TE) (σ : L2.St) (H : Hp) (d : PyData) : Prop := ∀ H1, Same H H1 → ∀ Q : VK, (∀ v H2, Same H1 H2 → Di K H2 v d → Q v H2) → te σ H1 Q
/-- a known value -/
def EvV (te : TE) (σ : L2.St) (H : Hp) (v : V) : Prop := ∀ H1, Same H H1 → ∀ Q : VK, (∀ H2, Same H1 H2 → Q v H2) → te σ H1 Q
/-- a new list of data -/
def EvL (K : PySem.W.Frag) (te : TE) (σ : L2.St) (H : Hp) (ds : List PyData) : Prop := ∀ H1, Same H H1 → ∀ Q : VK, (∀ p vs H2, H1 p = none → Same H1 H2 → H2 p = some (.lst vs) → DiAll K H2 vs ds → Q (.ref p) H2) → te σ H1 Q
def EvDs (K : PySem.W.Frag) (ta : TA) (σ : L2.St) (H : Hp) (ds : List PyData) : Prop := ∀ H1, Same H H1 → ∀ Q : List V → Hp → Prop, (∀ vs H2, Same H1 H2 → DiAll K H2 vs ds → Q vs H2) → ta σ H1 Q
def EvT (tt : TT) (σ : L2.St) (H : Hp) (b : Bool) : Prop := ∀ H1, Same H H1 → ∀ Q : Bool → Hp → Prop, (∀ H2, Same H1 H2 → Q b H2) → tt σ H1 Q
/-- at p a list of data -/
def Ls (K : PySem.W.Frag) (H : Hp) (p : Addr) (ds : List PyData) : Prop := ∃ vs, H p = some (.lst vs) ∧ DiAll K H vs ds
/-- a promise's end -/
def RetD (K : PySem.W.Frag) (d : PyData) (H : Hp) (Q : VK) : Prop := ∀ v H', Same H H' → Di K H' v d → Q v H'
def RetL (K : PySem.W.Frag) (ds : List PyData) (H : Hp) (Q : VK) : Prop := ∀ p vs H', H p = none → Same H H' → H' p = some (.lst vs) → DiAll K H' vs ds → Q (.ref p) H'
/-- the promise of a def that takes data and gives data -/
def spD (K : PySem.W.Frag) (pre : List PyData → PyData → Prop) : Sp := fun vs H Q _ => ∃ ds r, DiAll K H vs ds ∧ pre ds r ∧ RetD K r H Q
section
variable {K : PySem.W.Frag} {σ : L2.St} {H H' : Hp} {ta tb tc te : TE} {tt tu : TT} {tas : TA} {d d' : PyData} {ds : List PyData} {v : V} {p : Addr}
theorem Ls.to (h : Ls K H p ds) (e : Same H H') : Ls K H' p ds := let ⟨vs, h1, h2⟩ := h; ⟨vs, e _ _ h1, h2.to e⟩
theorem Ls.sq (h : Ls K H p ds) : ∃ vs, SqL K H p vs ∧ DiAll K H vs ds := let ⟨vs, h1, h2⟩ := h; ⟨vs, .of h1, h2⟩
theorem Ls.ints {ns : List Nat} (h : Ls K H p (ns.map nI)) : H p = some (.lst (ns.map vN)) := by
  obtain ⟨vs, h1, h2⟩ := h
  rw [diAll_ints h2] at h1; exact h1
theorem Ls.of_ints {ns : List Nat} (h : H p = some (.lst (ns.map vN))) : Ls K H p (ns.map nI) := ⟨_, h, diAll_of_ints ns⟩
theorem EvD.mono (e : Same H H') (h : EvD K te σ H d) : EvD K te σ H' d := fun H1 a Q q => h H1 (e.trans a) Q q
theorem EvL.mono (e : Same H H') (h : EvL K te σ H ds) : EvL K te σ H' ds := fun H1 a Q q => h H1 (e.trans a) Q q
theorem EvV.mono (e : Same H H') (h : EvV te σ H v) : EvV te σ H' v := fun H1 a Q q => h H1 (e.trans a) Q q
theorem EvD.is (h : EvD K te σ H d) (e : d = d') : EvD K te σ H d' := e ▸ h
theorem EvL.is {ds' : List PyData} (h : EvL K te σ H ds) (e : ds = ds') : EvL K te σ H ds' := e ▸ h
theorem EvV.dat (h : EvV te σ H v) (hd : Di K H v d) : EvD K te σ H d := fun H1 e Q q => h H1 e Q fun H2 e2 => q v H2 e2 (hd.to (e.trans e2))
theorem vv_var {i : Nat} (h : σ[i]? = some (some v)) : EvV (tVar i) σ H v := fun H1 _ _ q => ⟨v, h, q H1 (Same.refl H1)⟩
theorem ed_var {i : Nat} (h : σ[i]? = some (some v)) (hd : Di K H v d) : EvD K (tVar i) σ H d := (vv_var h).dat hd
theorem ed_int {i : Int} : EvD K (tC (.int i)) σ H (.int i) := fun H1 _ _ q => q _ H1 (Same.refl H1) (.int i)
theorem ed_n {n : Nat} : EvD K (tC (.int (OfNat.ofNat n))) σ H (.int (OfNat.ofNat n)) := ed_int
theorem ed_bl {b : Bool} : EvD K (tC (.bl b)) σ H (.bool b) := fun H1 _ _ q => q _ H1 (Same.refl H1) (.bl b)
theorem ed_non : EvD K (tC .non) σ H .none := fun H1 _ _ q => q _ H1 (Same.refl H1) .non
theorem ed_str {x : Str} : EvD K (tC (.str x)) σ H (.str x) := fun H1 _ _ q => q _ H1 (Same.refl H1) (.str x)
theorem vd_int {i : Int} (h : EvD K te σ H (.int i)) : EvV te σ H (.int i) := fun H1 e Q q => h H1 e Q fun v H2 e2 hd => by rw [hd.inv_int]; exact q H2 e2
theorem ea_nil : EvDs K tNil σ H [] := fun H1 _ _ q => q [] H1 (Same.refl H1) .nil
theorem ea_cons {tr : TA} (h : EvD K ta σ H d) (hr : EvDs K tr σ H ds) : EvDs K (tCons ta tr) σ H (d :: ds) := fun H1 e _ q =>
  h H1 e _ fun v H2 e2 hv => hr H2 (e.trans e2) _ fun vs H3 e3 hvs => q _ H3 (e2.trans e3) (.cons (hv.to e3) hvs)
theorem ea_one (h : EvD K ta σ H d) : EvDs K (tCons ta tNil) σ H [d] := ea_cons h ea_nil
theorem ed_tup (h : EvDs K tas σ H ds) (hl : ds.length ≤ 100000 := by decide) : EvD K (tTup tas) σ H (.tuple ds) := fun H1 e _ q =>
  h H1 e _ fun vs H2 e2 hv => ⟨Evl.sz_of (by rw [hv.len]; exact hl), fun p hp => q _ _ (e2.trans (Same.new hp)) (.tup (.of upd_same) (hv.to (Same.new hp)))⟩
theorem el_lst (h : EvDs K tas σ H ds) (hl : ds.length ≤ 100000 := by decide) : EvL K (tLst tas) σ H ds := fun H1 e _ q =>
  h H1 e _ fun vs H2 e2 hv => ⟨Evl.sz_of (by rw [hv.len]; exact hl), fun p hp => q p vs _ (e2.free hp) (e2.trans (Same.new hp)) upd_same (hv.to (Same.new hp))⟩
/-! whole numbers -/
theorem ed_opi {r : R2} {a b : Int} (ha : EvD K ta σ H (.int a)) (hb : EvD K tb σ H (.int b)) (hr : ∀ H1 (Q : VK), (∀ v, Di K H1 v d → Q v H1) → r (.int a) (.int b) H1 Q) : EvD K (tOp r ta tb) σ H d := fun H1 e Q q =>
  ha H1 e _ fun x H2 e2 hx => hb H2 (e.trans e2) _ fun y H3 e3 hy => by
    rw [hx.inv_int, hy.inv_int]
    exact hr H3 Q fun v hv => q v H3 (e2.trans e3) hv
theorem ed_I0 {g : Int → Int → Int} {a b : Int} (ha : EvD K ta σ H (.int a)) (hb : EvD K tb σ H (.int b)) : EvD K (tOp (rI0 fun i j => .int (g i j)) ta tb) σ H (.int (g a b)) := ed_opi ha hb fun H1 Q q => ⟨a, b, rfl, rfl, q _ (.int _)⟩
theorem ed_B0 {g : Int → Int → Bool} {a b : Int} (ha : EvD K ta σ H (.int a)) (hb : EvD K tb σ H (.int b)) : EvD K (tOp (rI0 fun i j => .bl (g i j)) ta tb) σ H (.bool (g a b)) := ed_opi ha hb fun H1 Q q => ⟨a, b, rfl, rfl, q _ (.bl _)⟩
theorem ed_I {C : Int → Int → Prop} {g : Int → Int → Int} {a b : Int} (ha : EvD K ta σ H (.int a)) (hb : EvD K tb σ H (.int b)) (hc : C a b) : EvD K (tOp (rI C fun i j => .int (g i j)) ta tb) σ H (.int (g a b)) := ed_opi ha hb fun H1 Q q => ⟨a, b, rfl, rfl, hc, q _ (.int _)⟩
theorem ed_eqI {a b : Int} (ha : EvD K ta σ H (.int a)) (hb : EvD K tb σ H (.int b)) : EvD K (tOp rEq ta tb) σ H (.bool (decide (a = b))) := ed_opi ha hb fun H1 Q q => ⟨rfl, by
  have e : decide (V.int a = V.int b) = decide (a = b) := by by_cases h : a = b <;> simp [h]
  rw [e]; exact q _ (.bl _)⟩
theorem ed_neI {a b : Int} (ha : EvD K ta σ H (.int a)) (hb : EvD K tb σ H (.int b)) : EvD K (tOp rNe ta tb) σ H (.bool (!decide (a = b))) := ed_opi ha hb fun H1 Q q => ⟨rfl, by
  have e : decide (V.int a = V.int b) = decide (a = b) := by by_cases h : a = b <;> simp [h]
  rw [e]; exact q _ (.bl _)⟩
/-- the sum of numbers -/
theorem ed_add {a b : Nat} (ha : EvD K ta σ H (nI a)) (hb : EvD K tb σ H (nI b)) : EvD K (tOp (rI0 fun i j => .int (i + j)) ta tb) σ H (nI (a + b)) := (ed_I0 ha hb).is (by show PyData.int _ = PyData.int _; simp)
theorem ed_mul {a b : Nat} (ha : EvD K ta σ H (nI a)) (hb : EvD K tb σ H (nI b)) (hc : b < 2 ^ 64) : EvD K (tOp (rI CMul fun i j => .int (i * j)) ta tb) σ H (nI (a * b)) :=
  (ed_I ha hb (.inr ⟨by omega, by exact_mod_cast hc⟩)).is (by show PyData.int _ = PyData.int _; simp)
theorem ed_ltN {a b : Nat} (ha : EvD K ta σ H (nI a)) (hb : EvD K tb σ H (nI b)) : EvD K (tOp (rI0 fun i j => .bl (decide (i < j))) ta tb) σ H (.bool (decide (a < b))) := (ed_B0 ha hb).is (by congr 1; simp)
theorem ed_gtN {a b : Nat} (ha : EvD K ta σ H (nI a)) (hb : EvD K tb σ H (nI b)) : EvD K (tOp (rI0 fun i j => .bl (decide (j < i))) ta tb) σ H (.bool (decide (b < a))) := (ed_B0 ha hb).is (by congr 1; simp)
theorem ed_eqN {a b : Nat} (ha : EvD K ta σ H (nI a)) (hb : EvD K tb σ H (nI b)) : EvD K (tOp rEq ta tb) σ H (.bool (decide (a = b))) := (ed_eqI ha hb).is (by congr 1; exact decide_eq_decide.mpr (by omega))
theorem ed_neN {a b : Nat} (ha : EvD K ta σ H (nI a)) (hb : EvD K tb σ H (nI b)) : EvD K (tOp rNe ta tb) σ H (.bool (!decide (a = b))) := (ed_neI ha hb).is (by congr 2; exact decide_eq_decide.mpr (by omega))
/-! items, lengths -/
theorem ed_ixT {k : Nat} (ha : EvD K ta σ H (.tuple ds)) (hb : EvD K tb σ H (nI k)) (hd : ds[k]? = some d) : EvD K (tOp (rIxT K) ta tb) σ H d := fun H1 e Q q =>
  ha H1 e _ fun x H2 e2 hx => hb H2 (e.trans e2) _ fun y H3 e3 hy => by
    obtain ⟨a, xs, rfl, h1, h2⟩ := (hx.to e3).inv_tup
    rw [hy.inv_int]
    obtain ⟨v, hv, hvd⟩ := h2.get hd
    exact ⟨a, xs, _, v, rfl, rfl, h1, atI_nat hv, q v H3 (e2.trans e3) hvd⟩
theorem ed_ixL {k : Nat} (ha : EvV ta σ H (.ref p)) (hp : Ls K H p ds) (hb : EvD K tb σ H (nI k)) (hd : ds[k]? = some d) : EvD K (tOp (rIxL K) ta tb) σ H d := fun H1 e Q q =>
  ha H1 e _ fun H2 e2 => hb H2 (e.trans e2) _ fun y H3 e3 hy => by
    obtain ⟨xs, h1, h2⟩ := (hp.to ((e.trans e2).trans e3)).sq
    rw [hy.inv_int]
    obtain ⟨v, hv, hvd⟩ := h2.get hd
    exact ⟨p, xs, _, v, rfl, rfl, h1, atI_nat hv, q v H3 (e2.trans e3) hvd⟩
/-- an item of a list of numbers, of a tuple of numbers -/
theorem ed_ixI {k x : Nat} {ns : List Nat} (ha : EvD K ta σ H (tI ns)) (hb : EvD K tb σ H (nI k)) (hd : ns[k]? = some x) : EvD K (tOp (rIxT K) ta tb) σ H (nI x) := ed_ixT ha hb (by rw [List.getElem?_map, hd]; rfl)
theorem ed_ixII {k : Nat} {x : List Nat} {rs : List (List Nat)} (ha : EvD K ta σ H (tII rs)) (hb : EvD K tb σ H (nI k)) (hd : rs[k]? = some x) : EvD K (tOp (rIxT K) ta tb) σ H (tI x) := ed_ixT ha hb (by rw [List.getElem?_map, hd]; rfl)
theorem ed_ixLI {k x : Nat} {ns : List Nat} (ha : EvV ta σ H (.ref p)) (hp : Ls K H p (ns.map nI)) (hb : EvD K tb σ H (nI k)) (hd : ns[k]? = some x) : EvD K (tOp (rIxL K) ta tb) σ H (nI x) := ed_ixL ha hp hb (by rw [List.getElem?_map, hd]; rfl)
end
/-- rules by names -/
def rLen (K : PySem.W.Frag) : List V → Hp → VK → Prop := fun xs H Q => ∃ p ys, xs = [.ref p] ∧ (SqL K H p ys ∨ SqT K H p ys) ∧ Q (.int ys.length) H
def rTupOf (K : PySem.W.Frag) : List V → Hp → VK → Prop := fun xs H Q => ∃ p ys, xs = [.ref p] ∧ ((SqL K H p ys ∧ ∀ l, H l = none → Q (.ref l) (upd H l (.tup ys))) ∨ (SqT K H p ys ∧ Q (.ref p) H))
def rInt1 : List V → Hp → VK → Prop := fun xs H Q => (∃ i, xs = [.int i] ∧ Q (.int i) H) ∨ ∃ k, xs = [.bl k] ∧ Q (.int (if k then 1 else 0)) H
def rIsNn : R2 := fun x y H Q => y = .non ∧ Q (.bl (decide (x = .non))) H
def rNotNn : R2 := fun x y H Q => y = .non ∧ Q (.bl (!decide (x = .non))) H
theorem cb_len {X : Cx} : CallR X (.builtin "len") (rLen X.K) := call_len_seq
theorem cb_tup {X : Cx} : CallR X (.type "tuple") (rTupOf X.K) := call_tuple_of
theorem cb_int {X : Cx} : CallR X (.type "int") rInt1 := call_int1
theorem ob_isN {X : Cx} : OpR X (compareOp .Is) rIsNn := op_isN
theorem ob_notN {X : Cx} : OpR X (compareOp .IsNot) rNotNn := op_notN
section
variable {K : PySem.W.Frag} {σ : L2.St} {H H' : Hp} {ta tb tc te : TE} {tt tu : TT} {tas : TA} {d d' : PyData} {ds : List PyData} {v : V} {p : Addr}
theorem ed_lenT (ha : EvD K ta σ H (.tuple ds)) : EvD K (tCB (rLen K) (tCons ta tNil)) σ H (nI ds.length) := fun H1 e Q q =>
  ha H1 e _ fun x H2 e2 hx => by
    obtain ⟨a, xs, rfl, h1, h2⟩ := hx.inv_tup
    refine ⟨a, xs, rfl, .inr h1, q _ H2 e2 ?_⟩
    rw [h2.len]; exact .int _
theorem ed_lenL (ha : EvV ta σ H (.ref p)) (hp : Ls K H p ds) : EvD K (tCB (rLen K) (tCons ta tNil)) σ H (nI ds.length) := fun H1 e Q q =>
  ha H1 e _ fun H2 e2 => by
    obtain ⟨xs, h1, h2⟩ := (hp.to (e.trans e2)).sq
    refine ⟨p, xs, rfl, .inl h1, q _ H2 e2 ?_⟩
    rw [h2.len]; exact .int _
theorem ed_lenI {ns : List Nat} (ha : EvD K ta σ H (tI ns)) : EvD K (tCB (rLen K) (tCons ta tNil)) σ H (nI ns.length) := (ed_lenT ha).is (by rw [List.length_map])
theorem ed_lenII {rs : List (List Nat)} (ha : EvD K ta σ H (tII rs)) : EvD K (tCB (rLen K) (tCons ta tNil)) σ H (nI rs.length) := (ed_lenT ha).is (by rw [List.length_map])
theorem ed_lenLI {ns : List Nat} (ha : EvV ta σ H (.ref p)) (hp : Ls K H p (ns.map nI)) : EvD K (tCB (rLen K) (tCons ta tNil)) σ H (nI ns.length) := (ed_lenL ha hp).is (by rw [List.length_map])
/-- tuple(a new list) -/
theorem ed_tupL (ha : EvL K ta σ H ds) : EvD K (tCB (rTupOf K) (tCons ta tNil)) σ H (.tuple ds) := fun H1 e Q q =>
  ha H1 e _ fun p vs H2 hp e2 h2 hd => ⟨p, vs, rfl, .inl ⟨.of h2, fun l hl => q _ _ (e2.trans (Same.new hl)) (.tup (.of upd_same) (hd.to (Same.new hl)))⟩⟩
theorem ed_tupLs (ha : EvV ta σ H (.ref p)) (hp : Ls K H p ds) : EvD K (tCB (rTupOf K) (tCons ta tNil)) σ H (.tuple ds) := fun H1 e Q q =>
  ha H1 e _ fun H2 e2 => by
    obtain ⟨vs, h1, h2⟩ := (hp.to (e.trans e2)).sq
    exact ⟨p, vs, rfl, .inl ⟨h1, fun l hl => q _ _ (e2.trans (Same.new hl)) (.tup (.of upd_same) (h2.to (Same.new hl)))⟩⟩
theorem ed_toInt {i : Int} (ha : EvD K ta σ H (.int i)) : EvD K (tCB rInt1 (tCons ta tNil)) σ H (.int i) := fun H1 e Q q =>
  ha H1 e _ fun x H2 e2 hx => .inl ⟨i, by rw [hx.inv_int], q _ H2 e2 (.int i)⟩
/-! tests -/
theorem ed_andV {a b : Bool} (ha : EvD K ta σ H (.bool a)) (hb : a = true → EvD K tb σ H (.bool b)) : EvD K (tAndV ta tb) σ H (.bool (a && b)) := fun H1 e Q q => ha H1 e _ fun x H2 e2 hx => ⟨a, hx.inv_bl, by
  cases a with
  | true => exact hb rfl H2 (e.trans e2) Q fun v H3 e3 hv => q v H3 (e2.trans e3) hv
  | false => exact q _ H2 e2 (.bl false)⟩
theorem ed_and1 {b : Bool} (ha : EvD K ta σ H (.bool true)) (hb : EvD K tb σ H (.bool b)) : EvD K (tAndV ta tb) σ H (.bool b) := (ed_andV ha fun _ => hb).is (by simp)
theorem ed_notV {a : Bool} (ha : EvD K ta σ H (.bool a)) : EvD K (tNotV ta) σ H (.bool (!a)) := fun H1 e Q q => ha H1 e _ fun x H2 e2 hx => ⟨a, hx.inv_bl, q _ H2 e2 (.bl _)⟩
theorem et_B {b : Bool} (h : EvD K te σ H (.bool b)) : EvT (tB te) σ H b := fun H1 e _ q => h H1 e _ fun v H2 e2 hv => ⟨b, hv.inv_bl, q H2 e2⟩
theorem et_test {b : Bool} (h : EvD K te σ H (.bool b)) : EvT (tTest te) σ H b := fun H1 e _ q => h H1 e _ fun v H2 e2 hv => ⟨b, hv.inv_bl, q H2 e2⟩
theorem et_not {b : Bool} (h : EvT tt σ H b) : EvT (tNot tt) σ H (!b) := fun H1 e _ q => h H1 e _ fun H2 e2 => q H2 e2
theorem et_or {a b : Bool} (h1 : EvT tt σ H a) (h2 : a = false → EvT tu σ H b) : EvT (tOr tt tu) σ H (a || b) := fun H1 e Q q => h1 H1 e _ fun H2 e2 => by
  cases a with
  | true => exact q H2 e2
  | false => exact h2 rfl H2 (e.trans e2) Q fun H3 e3 => q H3 (e2.trans e3)
theorem et_and {a b : Bool} (h1 : EvT tt σ H a) (h2 : a = true → EvT tu σ H b) : EvT (tAnd tt tu) σ H (a && b) := fun H1 e Q q => h1 H1 e _ fun H2 e2 => by
  cases a with
  | false => exact q H2 e2
  | true => exact h2 rfl H2 (e.trans e2) Q fun H3 e3 => q H3 (e2.trans e3)
theorem et_is {a b : Bool} (h : EvT tt σ H a) (e : a = b) : EvT tt σ H b := e ▸ h
theorem ed_if {b : Bool} (h : EvT tt σ H b) (h1 : b = true → EvD K ta σ H d) (h2 : b = false → EvD K tb σ H d) : EvD K (tIf tt ta tb) σ H d := fun H1 e Q q => h H1 e _ fun H2 e2 => by
  cases b with
  | true => exact h1 rfl H2 (e.trans e2) Q fun v H3 e3 hv => q v H3 (e2.trans e3) hv
  | false => exact h2 rfl H2 (e.trans e2) Q fun v H3 e3 hv => q v H3 (e2.trans e3) hv
/-! calls of such defs -/
theorem ed_call {pre : List PyData → PyData → Prop} {dvs : List V} {dds : List PyData} {E : XK} (ha : EvDs K tas σ H ds) (hd : ∀ H, DiAll K H dvs dds) (hp : pre (ds ++ dds) d) : EvD K (tCall (spD K pre) dvs E tas) σ H d := fun H1 e Q q =>
  ha H1 e _ fun vs H2 e2 hv => ⟨ds ++ dds, d, hv.append (hd H2), hp, fun v H3 e3 hv3 => q v H3 (e2.trans e3) hv3⟩
theorem ed_call0 {pre : List PyData → PyData → Prop} {E : XK} (ha : EvDs K tas σ H ds) (hp : pre ds d) : EvD K (tCall (spD K pre) [] E tas) σ H d := ed_call ha (fun _ => .nil) (by rw [List.append_nil]; exact hp)
/-! statements -/
variable {D : Ends} {t u tz : TS} {i : Nat}
theorem q_D (h : EvD K te σ H d) (k : ∀ v H1, Same H H1 → Di K H1 v d → tz D (σ.set i (some v)) H1) : tSeq (tAsg te (gName i)) tz D σ H := h H (Same.refl H) _ fun v H1 e1 hv => k v H1 e1 hv
theorem q_L (h : EvL K te σ H ds) (k : ∀ p vs H1, H p = none → Same H H1 → H1 p = some (.lst vs) → DiAll K H1 vs ds → tz D (σ.set i (some (.ref p))) H1) : tSeq (tAsg te (gName i)) tz D σ H := h H (Same.refl H) _ fun p vs H1 hp e1 h1 hv => k p vs H1 hp e1 h1 hv
theorem q_ret (h : EvD K te σ H d) (k : ∀ v H1, Same H H1 → Di K H1 v d → D.rt v H1) : tRet te D σ H := h H (Same.refl H) _ fun v H1 e1 hv => k v H1 e1 hv
theorem q_retL (h : EvL K te σ H ds) (k : ∀ p vs H1, H p = none → Same H H1 → H1 p = some (.lst vs) → DiAll K H1 vs ds → D.rt (.ref p) H1) : tRet te D σ H := h H (Same.refl H) _ fun p vs H1 hp e1 h1 hv => k p vs H1 hp e1 h1 hv
theorem q_drop (h : EvD K te σ H d) (k : ∀ H1, Same H H1 → tz D σ H1) : tSeq (tDrop te) tz D σ H := h H (Same.refl H) _ fun v H1 e1 hv => k H1 e1
theorem q_if {b : Bool} (h : EvT tt σ H b) (h1 : b = true → ∀ H1, Same H H1 → t { D with nx := tz D } σ H1) (h2 : b = false → ∀ H1, Same H H1 → u { D with nx := tz D } σ H1) : tSeq (tIfS tt t u) tz D σ H := h H (Same.refl H) _ fun H1 e1 => by
  cases b with
  | true => exact h1 rfl H1 e1
  | false => exact h2 rfl H1 e1
theorem s_if {b : Bool} (h : EvT tt σ H b) (h1 : b = true → ∀ H1, Same H H1 → t D σ H1) (h2 : b = false → ∀ H1, Same H H1 → u D σ H1) : tIfS tt t u D σ H := h H (Same.refl H) _ fun H1 e1 => by
  cases b with
  | true => exact h1 rfl H1 e1
  | false => exact h2 rfl H1 e1
/-- the test is false: nothing happens -/
theorem q_skip (h : EvT tt σ H false) (k : ∀ H1, Same H H1 → tz D σ H1) : tSeq (tIfS tt t tNext) tz D σ H := q_if h (fun z => nomatch z) fun _ H1 e1 => k H1 e1
/-- a, b, c = data -/
theorem q_un3 {i j l : Nat} {d1 d2 d3 : PyData} (h : EvD K te σ H (.tuple [d1, d2, d3])) (k : ∀ v1 v2 v3 H1, Same H H1 → Di K H1 v1 d1 → Di K H1 v2 d2 → Di K H1 v3 d3 → tz D (((σ.set i (some v1)).set j (some v2)).set l (some v3)) H1) :
    tSeq (tAsg te (gTup K 3 (gCons (gName i) (gCons (gName j) (gCons (gName l) gNil))))) tz D σ H := h H (Same.refl H) _ fun v H1 e1 hv => by
  obtain ⟨a, xs, rfl, h1, h2⟩ := hv.inv_tup
  obtain ⟨v1, v2, v3, rfl, k1, k2, k3⟩ := h2.inv3
  exact ⟨a, _, rfl, h1, rfl, v1, _, rfl, v2, _, rfl, v3, _, rfl, rfl, k v1 v2 v3 H1 e1 k1 k2 k3⟩
theorem q_un2 {i j : Nat} {d1 d2 : PyData} (h : EvD K te σ H (.tuple [d1, d2])) (k : ∀ v1 v2 H1, Same H H1 → Di K H1 v1 d1 → Di K H1 v2 d2 → tz D ((σ.set i (some v1)).set j (some v2)) H1) :
    tSeq (tAsg te (gTup K 2 (gCons (gName i) (gCons (gName j) gNil)))) tz D σ H := h H (Same.refl H) _ fun v H1 e1 hv => by
  obtain ⟨a, xs, rfl, h1, h2⟩ := hv.inv_tup
  obtain ⟨v1, v2, rfl, k1, k2⟩ := h2.inv2
  exact ⟨a, _, rfl, h1, rfl, v1, _, rfl, v2, _, rfl, rfl, k v1 v2 H1 e1 k1 k2⟩
end
end K63
/-! K63Lay2: what a comprehension goes over (Src), comprehensions as lists of data. -/
namespace K63
open PySem PySem.Spec PyProof.Rows L2
/-- n turns; turn i gives a thing of which P i holds -/
def SrcP (wi : TI) (σ : L2.St) (H : Hp) (n : Nat) (P : Nat → V → Hp → Prop) : Prop :=
  ∀ H1, Same H H1 → ∀ R : It → Hp → Prop, (∀ J H2, Same H1 H2 → Walk J n (fun H' => Same H2 H') (fun i H' x H'' => Same H' H'' ∧ P i x H'') → R J H2) → wi σ H1 R
def PDat (K : PySem.W.Frag) (ds : List PyData) : Nat → V → Hp → Prop := fun i x H => ∃ d, ds[i]? = some d ∧ Di K H x d
abbrev Src (K : PySem.W.Frag) (wi : TI) (σ : L2.St) (H : Hp) (ds : List PyData) : Prop := SrcP wi σ H ds.length (PDat K ds)
section
variable {K : PySem.W.Frag} {σ : L2.St} {H H' : Hp} {ta tb tc te : TE} {tt tu : TT} {tas : TA} {d d' : PyData} {ds rs : List PyData} {v : V} {p : Addr} {wi : TI} {vs : List Nat} {j : Nat} {n : Nat} {P : Nat → V → Hp → Prop}
theorem src_tup (h : EvD K ta σ H (.tuple ds)) : Src K (iTup K ta) σ H ds := fun H1 e R q => h H1 e _ fun v H2 e2 hv => by
  obtain ⟨a, xs, rfl, h1, h2⟩ := hv.inv_tup
  refine ⟨a, rfl, ⟨xs, h1⟩, q _ H2 e2 ?_⟩
  rw [← h2.len]
  exact walk_tup.mono (fun H3 e3 => (Same.tx e3).sq h1) fun i H3 x H4 hi e3 y => by
    obtain ⟨rfl, hx⟩ := y
    obtain ⟨d, hd, r⟩ := h2.at hx
    exact ⟨Same.refl _, d, hd, r.to e3⟩
theorem src_list (h : EvV ta σ H (.ref p)) (hp : Ls K H p ds) : Src K (iList K ta) σ H ds := fun H1 e R q => h H1 e _ fun H2 e2 => by
  obtain ⟨xs, h1, h2⟩ := hp.to (e.trans e2)
  refine ⟨p, rfl, ⟨xs, .of h1⟩, q _ H2 e2 ?_⟩
  rw [← h2.len]
  exact walk_list.mono (fun H3 e3 => .of (e3 _ _ h1)) fun i H3 x H4 hi e3 y => by
    obtain ⟨rfl, hx⟩ := y
    obtain ⟨d, hd, r⟩ := h2.at hx
    exact ⟨Same.refl _, d, hd, r.to e3⟩
theorem src_new (h : EvL K ta σ H ds) : Src K (iList K ta) σ H ds := fun H1 e R q => h H1 e _ fun p xs H2 hp e2 h1 h2 => by
  refine ⟨p, rfl, ⟨xs, .of h1⟩, q _ H2 e2 ?_⟩
  rw [← h2.len]
  exact walk_list.mono (fun H3 e3 => .of (e3 _ _ h1)) fun i H3 x H4 hi e3 y => by
    obtain ⟨rfl, hx⟩ := y
    obtain ⟨d, hd, r⟩ := h2.at hx
    exact ⟨Same.refl _, d, hd, r.to e3⟩
theorem src_rng {m : Nat} (h : EvDs K tas σ H [nI m]) (hm : m < 100000) : Src K (iRng1 tas) σ H ((List.range m).map nI) := fun H1 e R q => h H1 e _ fun ws H2 e2 hw => by
  obtain ⟨v, rfl, hv⟩ := hw.inv1
  refine ⟨(m : Int), by rw [hv.inv_int], by omega, by omega, q _ H2 e2 ?_⟩
  rw [List.length_map, List.length_range]
  refine (show Walk (Itr 0 ((m : Int)).toNat) m (fun _ => True) (YFn fun i => V.int (0 + (i : Int))) from walk_range).mono (fun _ _ => trivial) fun i H3 x H4 hi e3 y => ?_
  obtain ⟨rfl, rfl⟩ := y
  refine ⟨Same.refl _, nI i, ?_, ?_⟩
  · rw [List.getElem?_map, List.getElem?_range hi]; rfl
  · show Di K H4 (V.int (0 + (i : Int))) (nI i)
    rw [show (0 : Int) + (i : Int) = (i : Int) by omega]; exact .int _
/-- [e for x in ..], e data -/
theorem el_compP {g : TG} (hs : SrcP wi σ H n P) (hl : rs.length = n) (hz : n ≤ 40000)
    (he : ∀ (i : Nat) (r : PyData) (x : V) (H1 : Hp), rs[i]? = some r → Same H H1 → P i x H1 → ∀ R : L2.St → Hp → Prop, (∀ σ2, wipe σ2 vs = wipe σ vs → EvD K te σ2 H1 r → R σ2 H1) → g x (wipe σ vs) H1 R) :
    EvL K (tLc wi g tYes te vs) σ H rs := fun H1 e Q q => hs H1 e _ fun J H2 e2 w => fun D hD => by
  refine lc_it w (fun i H' => Same H2 H' ∧ ∃ acc, H' D = some (.lst acc) ∧ DiAll K H' acc (rs.take i)) ⟨Same.new hD, [], upd_same, .nil⟩ (fun i H' _ h => h.1) (fun i x H3 H4 hi hP hY => ?_) fun H3 hP => ?_
  · obtain ⟨e3, acc, hacc, hda⟩ := hP
    obtain ⟨e4, hp⟩ := hY
    have hi' : i < rs.length := by omega
    have hr : rs[i]? = some rs[i] := List.getElem?_eq_getElem hi'
    refine he i _ x H4 hr (((e.trans e2).trans e3).trans e4) hp _ fun σ2 hw hev => ⟨hw, ?_⟩
    show te σ2 H4 _
    refine hev H4 (Same.refl _) _ fun v H5 e5 hv => ⟨acc, e5 _ _ (e4 _ _ hacc), ?_, Same.mut ((e3.trans e4).trans e5) hD, acc ++ [v], upd_same, ?_⟩
    · rw [hda.len, List.length_take]
      exact Evl.sz_lt (by omega)
    · rw [List.take_add_one, hr]
      exact ((hda.to (e4.trans e5)).snoc hv).tx (.upd (.lst (e5 _ _ (e4 _ _ hacc))))
  · obtain ⟨e3, acc, hacc, hda⟩ := hP
    rw [← hl, List.take_length] at hda
    exact q D acc H3 (e2.free hD) (e2.trans e3) hacc hda
/-- the target a name -/
theorem el_comp (hs : Src K wi σ H ds) (hl : rs.length = ds.length) (hz : ds.length ≤ 40000 := by omega) (hw : ∀ x, wipe ((wipe σ vs).set j (some x)) vs = wipe σ vs := by exact fun _ => rfl)
    (he : ∀ (i : Nat) (d r : PyData) (x : V) (H1 : Hp), ds[i]? = some d → rs[i]? = some r → Same H H1 → Di K H1 x d → EvD K te ((wipe σ vs).set j (some x)) H1 r) : EvL K (tLc wi (gName j) tYes te vs) σ H rs :=
  el_compP hs hl hz fun i r x H1 hr e1 hp R hR => by
    obtain ⟨d, hd, hx⟩ := hp
    exact hR _ (hw x) (he i d r x H1 hd hr e1 hx)
/-- the target a pair of names -/
theorem el_comp2 {k : Nat} {ps : List (PyData × PyData)} (hs : Src K wi σ H (ps.map fun p => PyData.tuple [p.1, p.2])) (hl : rs.length = ps.length) (hz : ps.length ≤ 40000) (hw : ∀ x y, wipe (((wipe σ vs).set j (some x)).set k (some y)) vs = wipe σ vs)
    (he : ∀ (i : Nat) (d1 d2 r : PyData) (x y : V) (H1 : Hp), ps[i]? = some (d1, d2) → rs[i]? = some r → Same H H1 → Di K H1 x d1 → Di K H1 y d2 → EvD K te (((wipe σ vs).set j (some x)).set k (some y)) H1 r) :
    EvL K (tLc wi (gTup K 2 (gCons (gName j) (gCons (gName k) gNil))) tYes te vs) σ H rs :=
  el_compP hs (by rw [hl, List.length_map]) (by rw [List.length_map]; exact hz) fun i r x H1 hr e1 hp R hR => by
    obtain ⟨d, hd, hx⟩ := hp
    rw [List.getElem?_map] at hd
    cases e : ps[i]? with
    | none => rw [e] at hd; simp at hd
    | some p =>
      rw [e] at hd
      obtain ⟨d1, d2⟩ := p
      obtain rfl : PyData.tuple [d1, d2] = d := Option.some.inj hd
      obtain ⟨a, xs, rfl, h1, h2⟩ := hx.inv_tup
      obtain ⟨u, w, rfl, h3, h4⟩ := h2.inv2
      exact ⟨a, _, rfl, h1, rfl, u, _, rfl, w, _, rfl, rfl, hR _ (hw u w) (he i d1 d2 r u w H1 e hr e1 h3 h4)⟩
/-! lists of lists -/
/-- the values at p's list are lists of data, none of them p -/
def LLs (K : PySem.W.Frag) (H : Hp) (p : Addr) (dss : List (List PyData)) : Prop :=
  ∃ vs, H p = some (.lst vs) ∧ vs.length = dss.length ∧ ∀ (i : Nat) (ds : List PyData), dss[i]? = some ds → ∃ q, vs[i]? = some (.ref q) ∧ q ≠ p ∧ Ls K H q ds
theorem LLs.to {dss : List (List PyData)} (h : LLs K H p dss) (e : Same H H') : LLs K H' p dss := by
  obtain ⟨vs, h1, h2, h3⟩ := h
  refine ⟨vs, e _ _ h1, h2, fun i ds hd => ?_⟩
  obtain ⟨q, a, b, c⟩ := h3 i ds hd
  exact ⟨q, a, b, c.to e⟩
/-- a mutable thing besides changes -/
theorem LLs.put {dss : List (List PyData)} {a : Addr} {o : HO} (h : LLs K H p dss) (hn : NoTup H a) (hp : a ≠ p) (hv : ∀ q ds, Ls K H q ds → q ≠ a) : LLs K (upd H a o) p dss := by
  obtain ⟨vs, h1, h2, h3⟩ := h
  refine ⟨vs, by rw [upd_ne (Ne.symm hp)]; exact h1, h2, fun i ds hd => ?_⟩
  obtain ⟨q, a', b, c⟩ := h3 i ds hd
  refine ⟨q, a', b, ?_⟩
  have hq := hv q ds c
  obtain ⟨us, c1, c2⟩ := c
  exact ⟨us, by rw [upd_ne hq]; exact c1, c2.tx (.upd hn)⟩
theorem LLs.nil (h : H p = some (.lst [])) : LLs K H p [] := ⟨[], h, rfl, fun i ds hd => by simp at hd⟩
/-- one list more -/
theorem LLs.snoc {dss : List (List PyData)} {ds : List PyData} {q : Addr} {vs : List V} (h : LLs K H p dss) (hp : H p = some (.lst vs)) (hq : Ls K H q ds) (hne : q ≠ p) : LLs K (upd H p (.lst (vs ++ [.ref q]))) p (dss ++ [ds]) := by
  obtain ⟨vs', h1, h2, h3⟩ := h
  rw [hp] at h1; cases h1
  refine ⟨_, upd_same, by simp [h2], fun i es hd => ?_⟩
  by_cases hi : i < dss.length
  · rw [List.getElem?_append_left hi] at hd
    obtain ⟨r, a, b, us, c1, c2⟩ := h3 i es hd
    exact ⟨r, by rw [List.getElem?_append_left (by omega)]; exact a, b, us, by rw [upd_ne b]; exact c1, c2.tx (.upd (.lst hp))⟩
  · rw [List.getElem?_append_right (by omega)] at hd
    have hi0 : i - dss.length = 0 := by
      have := (List.getElem?_eq_some_iff.mp hd).1
      simp at this; omega
    rw [hi0] at hd; simp at hd; subst hd
    obtain ⟨us, c1, c2⟩ := hq
    refine ⟨q, ?_, hne, us, by rw [upd_ne hne]; exact c1, c2.tx (.upd (.lst hp))⟩
    rw [List.getElem?_append_right (by omega), show i - vs.length = 0 by omega]
    rfl
/-- a new list of new lists -/
def EvLL (K : PySem.W.Frag) (te : TE) (σ : L2.St) (H : Hp) (dss : List (List PyData)) : Prop := ∀ H1, Same H H1 → ∀ Q : VK, (∀ p H2, H1 p = none → Same H1 H2 → LLs K H2 p dss → Q (.ref p) H2) → te σ H1 Q
theorem ell_comp {g : TG} {dss : List (List PyData)} (hs : SrcP wi σ H n P) (hl : dss.length = n) (hz : n ≤ 40000)
    (he : ∀ (i : Nat) (r : List PyData) (x : V) (H1 : Hp), dss[i]? = some r → Same H H1 → P i x H1 → ∀ R : L2.St → Hp → Prop, (∀ σ2, wipe σ2 vs = wipe σ vs → EvL K te σ2 H1 r → R σ2 H1) → g x (wipe σ vs) H1 R) :
    EvLL K (tLc wi g tYes te vs) σ H dss := fun H1 e Q q => hs H1 e _ fun J H2 e2 w => fun D hD => by
  refine lc_it w (fun i H' => Same H2 H' ∧ LLs K H' D (dss.take i)) ⟨Same.new hD, .nil upd_same⟩ (fun i H' _ h => h.1) (fun i x H3 H4 hi hP hY => ?_) fun H3 hP => ?_
  · obtain ⟨e3, hL⟩ := hP
    obtain ⟨e4, hp⟩ := hY
    have hi' : i < dss.length := by omega
    have hr : dss[i]? = some dss[i] := List.getElem?_eq_getElem hi'
    refine he i _ x H4 hr (((e.trans e2).trans e3).trans e4) hp _ fun σ2 hw hev => ⟨hw, ?_⟩
    show te σ2 H4 _
    refine hev H4 (Same.refl _) _ fun c us H5 hc e5 h5 hd5 => ?_
    have hL5 := hL.to (e4.trans e5)
    obtain ⟨acc, hacc, hlen, _⟩ := id hL5
    have hL4 := hL.to e4
    obtain ⟨acc4, hacc4, _⟩ := hL4
    refine ⟨acc, hacc, ?_, Same.mut ((e3.trans e4).trans e5) hD, ?_⟩
    · rw [hlen, List.length_take]
      exact Evl.sz_lt (by omega)
    · rw [List.take_add_one, hr]
      exact hL5.snoc hacc ⟨us, h5, hd5⟩ (fun z => by rw [z, hacc4] at hc; cases hc)
  · obtain ⟨e3, hL⟩ := hP
    rw [← hl, List.take_length] at hL
    exact q D H3 (e2.free hD) (e2.trans e3) hL
/-- over a list of lists -/
def PLst (K : PySem.W.Frag) (dss : List (List PyData)) : Nat → V → Hp → Prop := fun i x H => ∃ ds q, dss[i]? = some ds ∧ x = .ref q ∧ Ls K H q ds
theorem src_LL {dss : List (List PyData)} (h : EvV ta σ H (.ref p)) (hp : LLs K H p dss) : SrcP (iList K ta) σ H dss.length (PLst K dss) := fun H1 e R q => h H1 e _ fun H2 e2 => by
  obtain ⟨xs, h1, h2, h3⟩ := hp.to (e.trans e2)
  refine ⟨p, rfl, ⟨xs, .of h1⟩, q _ H2 e2 ?_⟩
  rw [← h2]
  exact walk_list.mono (fun H3 e3 => .of (e3 _ _ h1)) fun i H3 x H4 hi e3 y => by
    obtain ⟨rfl, hx⟩ := y
    have hi' : i < dss.length := by omega
    obtain ⟨c, a, b, l⟩ := h3 i _ (List.getElem?_eq_getElem hi')
    rw [hx] at a; cases a
    exact ⟨Same.refl _, _, c, List.getElem?_eq_getElem hi', rfl, l.to e3⟩
/-- tuple([tuple(row) for row in rows]) -/
theorem el_rows {dss : List (List PyData)} (hs : SrcP wi σ H dss.length (PLst K dss)) (hz : dss.length ≤ 40000) (hw : ∀ x, wipe ((wipe σ vs).set j (some x)) vs = wipe σ vs)
    (hj : ∀ x : V, ((wipe σ vs).set j (some x))[j]? = some (some x)) : EvL K (tLc wi (gName j) tYes (tCB (rTupOf K) (tCons (tVar j) tNil)) vs) σ H (dss.map fun ds => .tuple ds) :=
  el_compP hs (by simp) hz fun i r x H1 hr e1 hp R hR => by
    obtain ⟨ds, q, hd, rfl, l⟩ := hp
    rw [List.getElem?_map, hd] at hr
    obtain rfl : PyData.tuple ds = r := Option.some.inj hr
    exact hR _ (hw _) (ed_tupLs (vv_var (hj _)) l)
/-! dicts of numbers -/
theorem ed_dget {kvs : List (Key × V)} {k : Int} (ha : EvV ta σ H (.ref p)) (hp : H p = some (.dK kvs)) (hb : EvD K tb σ H (.int k)) (hv : valV kvs (.inl k) = some v) (hd : Di K H v d) : EvD K (tDGet ta tb) σ H d := fun H1 e Q q =>
  ha H1 e _ fun H2 e2 => hb H2 (e.trans e2) _ fun y H3 e3 hy => by
    rw [hy.inv_int]
    have e' := (e.trans e2).trans e3
    refine ⟨p, v, rfl, ?_, q v H3 (e2.trans e3) (hd.to e')⟩
    rw [← hv]
    exact DGet.k (k := Sum.inl k) (e' _ _ hp)
theorem ed_dnotin {kvs : List (Key × V)} {k : Int} (hb : EvD K tb σ H (.int k)) (ha : EvV ta σ H (.ref p)) (hp : H p = some (.dK kvs)) : EvD K (tDNotIn tb ta) σ H (.bool (!(valV kvs (.inl k)).isSome)) := fun H1 e Q q =>
  hb H1 e _ fun y H2 e2 hy => ha H2 (e.trans e2) _ fun H3 e3 => by
    rw [hy.inv_int]
    exact ⟨p, _, rfl, DGet.k (k := Sum.inl k) (((e.trans e2).trans e3) _ _ hp), q _ H3 (e2.trans e3) (.bl _)⟩
/-- a reversed copy -/
theorem el_rev (ha : EvV ta σ H (.ref p)) (hp : Ls K H p ds) : EvL K (tRevL K ta) σ H ds.reverse := fun H1 e Q q => ha H1 e _ fun H2 e2 => by
  obtain ⟨xs, h1, h2⟩ := hp.to (e.trans e2)
  refine ⟨p, xs, rfl, .of h1, fun l hl => q l _ _ (e2.free hl) (e2.trans (Same.new hl)) upd_same ?_⟩
  refine DiAll.to ?_ (Same.new hl)
  refine DiAll.of_get (by simp [h2.len]) fun i v d hv hd => ?_
  have hi := (List.getElem?_eq_some_iff.mp hv).1
  rw [List.length_reverse] at hi
  have hi2 : i < ds.length := by rw [← h2.len]; exact hi
  rw [List.getElem?_reverse hi] at hv
  rw [List.getElem?_reverse hi2, ← h2.len] at hd
  obtain ⟨w, e1, r⟩ := h2.get hd
  rw [hv] at e1; cases e1; exact r
theorem diAll_bls : ∀ {bs : List Bool} {vs : List V}, DiAll K H vs (bs.map PyData.bool) → vs = bs.map V.bl
  | [], _, h => by cases h; rfl
  | b :: bs, _, h => by
    cases h with
    | cons h1 h2 => rw [h1.inv_bl, diAll_bls h2]; rfl
/-- all(..) of truth values -/
theorem ed_all {bs : List Bool} (ha : EvL K ta σ H (bs.map PyData.bool)) : EvD K (tCB (rAll K) (tCons ta tNil)) σ H (.bool (bs.all id)) := fun H1 e Q q => ha H1 e _ fun p vs H2 hp e2 h2 hd => by
  have : vs = bs.map V.bl := diAll_bls hd
  rw [this] at h2
  exact ⟨p, bs, rfl, .of h2, q _ H2 e2 (.bl _)⟩
end
end K63
/-! K63Lay3: dicts whose keys are nested tuples, as rules of the layer; zip of a list and a tuple; max of a tuple; repr of data. -/
namespace K63
open PySem PySem.Spec PyProof.Rows L2
abbrev NK := PySem.NestedKey
abbrev NE := NK × Addr × V
def atN (kvs : List NE) (k : NK) : Option V := (kvs.find? fun x => decide (x.1 = k)).map (·.2.2)
def setN (k : NK) (v : V) (x : NE) : NE := if x.1 = k then (x.1, x.2.1, v) else x
def putN (kvs : List NE) (k : NK) (a : Addr) (v : V) : List NE := if (atN kvs k).isSome then kvs.map (setN k v) else kvs ++ [(k, a, v)]
def allN (kvs ps : List NE) : List NE := ps.foldl (fun acc p => putN acc p.1 p.2.1 p.2.2) kvs
abbrev NR (p : NE) (q : NK × Addr × Value) : Prop := p.1 = q.1 ∧ p.2.1 = q.2.1 ∧ RelV p.2.2 q.2.2
abbrev RelN : List NE → List (NK × Addr × Value) → Prop := Paired NR
theorem RelN.at : ∀ {kvs : List NE} {xs : List (NK × Addr × Value)}, RelN kvs xs → ∀ k, RelO (atN kvs k) ((atKey xs k).map (·.2))
  | _, _, .nil, k => trivial
  | _, _, .cons (a := p) (b := q) h t, k => by
    by_cases e : p.1 = k
    · have e2 : q.1 = k := h.1 ▸ e
      simp only [atN, atKey, List.find?_cons, e, e2, decide_true, Option.map_some]
      exact h.2.2
    · have e2 : ¬ q.1 = k := fun z => e (h.1.trans z)
      have ih := RelN.at t k
      simp only [atN, atKey, List.find?_cons, e, e2, decide_false] at ih ⊢
      exact ih
theorem RelN.some_iff {kvs : List NE} {xs : List (NK × Addr × Value)} (r : RelN kvs xs) (k : NK) : (atN kvs k).isSome = (atKey xs k).isSome := by
  have := RelO.isSome_eq (r.at k)
  rw [this, Option.isSome_map]
theorem RelN.map {k : NK} {v : V} {u : Value} (rv : RelV v u) : ∀ {kvs : List NE} {xs : List (NK × Addr × Value)}, RelN kvs xs → RelN (kvs.map (setN k v)) (xs.map (putAt k u))
  | _, _, .nil => .nil
  | _, _, .cons (a := p) (b := q) h t => by
    refine .cons ?_ (RelN.map rv t)
    unfold setN putAt
    by_cases e : p.1 = k
    · have e2 : q.1 = k := h.1 ▸ e
      rw [if_pos e, if_pos e2]; exact ⟨h.1, h.2.1, rv⟩
    · have e2 : ¬ q.1 = k := fun z => e (h.1.trans z)
      rw [if_neg e, if_neg e2]; exact h
theorem RelN.snoc {p : NE} {q : NK × Addr × Value} (r : NR p q) : ∀ {kvs : List NE} {xs : List (NK × Addr × Value)}, RelN kvs xs → RelN (kvs ++ [p]) (xs ++ [q])
  | _, _, .nil => .cons r .nil
  | _, _, .cons h t => .cons h (RelN.snoc r t)
theorem RelN.put {kvs : List NE} {xs : List (NK × Addr × Value)} (r : RelN kvs xs) (k : NK) (a : Addr) {v : V} {u : Value} (rv : RelV v u) : RelN (putN kvs k a v) (storedH xs k a u) := by
  unfold putN storedH
  rw [r.some_iff]
  by_cases e : (atKey xs k).isSome = true
  · rw [if_pos e, if_pos e]; exact RelN.map rv r
  · rw [if_neg e, if_neg e]; exact RelN.snoc ⟨rfl, rfl, rv⟩ r
theorem RelN.all : ∀ {ps : List NE} {qs : List (NK × Addr × Value)} {kvs : List NE} {xs : List (NK × Addr × Value)}, RelN ps qs → RelN kvs xs → RelN (allN kvs ps) (storedAllH xs qs)
  | _, _, _, _, .nil, r => r
  | _, _, kvs, xs, .cons (a := p) (b := q) h t, r => by
    have := r.put p.1 p.2.1 h.2.2
    show RelN (allN (putN kvs p.1 p.2.1 p.2.2) _) (storedAllH (storedH xs q.1 q.2.1 q.2.2) _)
    refine RelN.all t ?_
    rw [← h.1, ← h.2.1]; exact this
theorem atN_cons (p : NE) (kvs : List NE) (j : NK) : atN (p :: kvs) j = if p.1 = j then some p.2.2 else atN kvs j := by
  unfold atN
  by_cases e : p.1 = j
  · simp [List.find?_cons, e]
  · simp [List.find?_cons, e]
theorem setN_fst (k : NK) (v : V) (p : NE) : (setN k v p).1 = p.1 := by unfold setN; split <;> rfl
theorem setN_val (k : NK) (v : V) (p : NE) : (setN k v p).2.2 = if p.1 = k then v else p.2.2 := by unfold setN; split <;> rfl
theorem atN_map (k j : NK) (v : V) : ∀ kvs : List NE, atN (kvs.map (setN k v)) j = (atN kvs j).map fun x => if j = k then v else x
  | [] => rfl
  | p :: kvs => by
    rw [List.map_cons, atN_cons, atN_cons, setN_fst, setN_val, atN_map k j v kvs]
    by_cases e : p.1 = j
    · rw [if_pos e, if_pos e, e]; rfl
    · rw [if_neg e, if_neg e]
theorem atN_snoc (k j : NK) (a : Addr) (v : V) : ∀ kvs : List NE, atN kvs k = none → atN (kvs ++ [(k, a, v)]) j = if j = k then some v else atN kvs j
  | [], _ => by
    rw [List.nil_append, atN_cons]
    by_cases e : k = j
    · rw [if_pos e, if_pos e.symm]
    · rw [if_neg e, if_neg (fun z => e z.symm)]
  | p :: kvs, h => by
    rw [atN_cons] at h
    by_cases ep : p.1 = k
    · rw [if_pos ep] at h; cases h
    · rw [if_neg ep] at h
      rw [List.cons_append, atN_cons, atN_cons, atN_snoc k j a v kvs h]
      by_cases e : p.1 = j
      · rw [if_pos e, if_pos e, if_neg (fun z => ep (e.trans z))]
      · rw [if_neg e, if_neg e]
theorem atN_put (kvs : List NE) (k j : NK) (a : Addr) (v : V) : atN (putN kvs k a v) j = if j = k then some v else atN kvs j := by
  unfold putN
  by_cases e : (atN kvs k).isSome = true
  · rw [if_pos e, atN_map]
    by_cases hj : j = k
    · subst hj
      obtain ⟨x, hx⟩ := Option.isSome_iff_exists.mp e
      rw [hx, if_pos rfl]; simp
    · rw [if_neg hj]
      simp [hj]
  · rw [if_neg e]
    exact atN_snoc k j a v kvs (by simpa using e)
theorem putN_new {kvs : List NE} {k : NK} (a : Addr) (v : V) (h : atN kvs k = none) : putN kvs k a v = kvs ++ [(k, a, v)] := by
  unfold putN; rw [h]; rfl
theorem putN_mem {kvs : List NE} {k : NK} {a : Addr} {v : V} {x : NE} (h : x ∈ putN kvs k a v) : (∃ y ∈ kvs, y.1 = x.1 ∧ y.2.1 = x.2.1) ∨ (x.1 = k ∧ x.2.1 = a) := by
  unfold putN at h
  split at h
  · obtain ⟨y, hy, rfl⟩ := List.mem_map.mp h
    refine .inl ⟨y, hy, ?_⟩
    unfold setN
    split <;> exact ⟨rfl, rfl⟩
  · rcases List.mem_append.mp h with h | h
    · exact .inl ⟨x, h, rfl, rfl⟩
    · simp at h; subst h; exact .inr ⟨rfl, rfl⟩
theorem putN_len (kvs : List NE) (k : NK) (a : Addr) (v : V) : (putN kvs k a v).length ≤ kvs.length + 1 := by
  unfold putN; split <;> simp
theorem allN_len : ∀ (ps kvs : List NE), (allN kvs ps).length ≤ kvs.length + ps.length
  | [], kvs => by simp [allN]
  | p :: ps, kvs => by
    have h1 := allN_len ps (putN kvs p.1 p.2.1 p.2.2)
    have h2 := putN_len kvs p.1 p.2.1 p.2.2
    show (allN (putN kvs p.1 p.2.1 p.2.2) ps).length ≤ _
    simp only [List.length_cons]; omega
/-- the object: a dict with these keys, at these places -/
def phiN (P : Program) (w : World) (d : Addr) (kvs : List NE) : Heap → Prop := fun h => (d == sysModules) = false ∧ ∃ xs : List (NK × Addr × Value), RelN kvs xs ∧
  ∃ o es ep, h.get? d = some o ∧ o.ExactDict ∧ o.data = .dict es ep ∧ es.toList = xs.map (entryOfKey (nestedKind P w)) ∧ (xs.map (·.1)).Nodup
def oN (P : Program) (w : World) (d : Addr) (kvs : List NE) : HO := .ext (phiN P w d kvs)
def KeyAt (K : PySem.W.Frag) (H : Hp) (k : NK) (a : Addr) : Prop := Di K H (.ref a) k.data ∧ k.depth ≤ 8
/-- at d a dict of these entries -/
structure ND (P : Program) (w : World) (K : PySem.W.Frag) (H : Hp) (d : Addr) (kvs : List NE) : Prop where
  ob : H d = some (oN P w d kvs)
  ks : ∀ x ∈ kvs, KeyAt K H x.1 x.2.1
section
variable {P : Program} {w : World} {K : PySem.W.Frag} {H H' : Hp} {d : Addr} {kvs : List NE} {h h' : Heap}
theorem KeyAt.tx {k : NK} {a : Addr} (x : KeyAt K H k a) (t : Tx H H') : KeyAt K H' k a := ⟨x.1.tx t, x.2⟩
theorem ND.to (x : ND P w K H d kvs) (e : Same H H') : ND P w K H' d kvs := ⟨e _ _ x.ob, fun y hy => (x.ks y hy).tx (Same.tx e)⟩
theorem ND.noTup (x : ND P w K H d kvs) : NoTup H d := .ext x.ob
theorem ND.put {a : Addr} {o : HO} (x : ND P w K H d kvs) (hn : NoTup H a) (ne : d ≠ a) : ND P w K (upd H a o) d kvs := ⟨by rw [upd_ne ne]; exact x.ob, fun y hy => (x.ks y hy).tx (.upd hn)⟩
theorem ok_N {xs : List (NK × Addr × Value)} (hd : (d == sysModules) = false) (r : RelN kvs xs) (m : h.DictOfH (nestedKind P w) d xs) : ObjOk P w H h d (oN P w d kvs) := by
  obtain ⟨o, es, ep, ho, hc, hdt, he, _, hn⟩ := m
  refine ⟨⟨hd, xs, r, o, es, ep, ho, hc, hdt, he, hn⟩, ⟨o, ho⟩, fun h1 h2 p k => ?_⟩
  obtain ⟨a, ys, b, o', es', ep', ho', c1, c2, c3, c4⟩ := p
  exact ⟨a, ys, b, o', es', ep', k _ ho', c1, c2, c3, c4⟩
variable {X : Cx} {pins : List (Addr × Obj)} {σ : L2.St} {s : Shared}
mutual
theorem nested_is (I : Inv X pins σ H s) : ∀ (k : NK) (v : V) (u : Value), Di X.K H v k.data → RelV v u → PySem.NestedIs s.heap k u
  | .none, v, u, h, r => by
    rw [show NestedKey.data .none = PyData.none from rfl] at h
    cases h; cases r; exact .none
  | .num i, v, u, h, r => by
    rw [show NestedKey.data (.num i) = PyData.int i from rfl] at h
    cases h; obtain ⟨t, rfl⟩ := r; exact .int i t
  | .text x, v, u, h, r => by
    rw [show NestedKey.data (.text x) = PyData.str x from rfl] at h
    cases h; obtain ⟨t, rfl⟩ := r; exact .text x t
  | .tup ks, v, u, h, r => by
    rw [show NestedKey.data (.tup ks) = PyData.tuple (NestedKey.datas ks) from rfl] at h
    cases h with
    | tup h1 h2 =>
      cases r
      obtain ⟨its, rv, ⟨o, ho, hc, n, hdt⟩, _⟩ := I.tuple h1
      exact .tup ho hc hdt (by simpa using nested_all I ks _ its h2 rv)
theorem nested_all (I : Inv X pins σ H s) : ∀ (ks : List NK) (vs : List V) (us : List Value), DiAll X.K H vs (NestedKey.datas ks) → Vals vs us → PySem.NestedAll s.heap ks us
  | [], vs, us, h, r => by
    rw [show NestedKey.datas [] = [] from rfl] at h
    cases h; cases r; exact .nil
  | k :: ks, vs, us, h, r => by
    rw [show NestedKey.datas (k :: ks) = NestedKey.data k :: NestedKey.datas ks from rfl] at h
    cases h with
    | cons h1 h2 => cases r with
      | cons r1 r2 => exact .cons (nested_is I k _ _ h1 r1) (nested_all I ks _ _ h2 r2)
end
theorem key_is {k : NK} {a : Addr} (I : Inv X pins σ H s) (h : KeyAt X.K H k a) : (nestedKind X.prog X.w).is s.heap k a := ⟨nested_is I k _ _ h.1 rfl, h.2⟩
theorem nd_of (I : Inv X pins σ H s) (x : ND X.prog X.w X.K H d kvs) : (d == sysModules) = false ∧ ∃ xs, RelN kvs xs ∧ s.heap.DictOfH (nestedKind X.prog X.w) d xs := by
  obtain ⟨⟨a, xs, r, o, es, ep, ho, hc, hd, he, hn⟩, _⟩ := (show ObjOk X.prog X.w H s.heap d (oN X.prog X.w d kvs) from I.hok d _ x.ob)
  refine ⟨a, xs, r, o, es, ep, ho, hc, hd, he, fun y hy => ?_, hn⟩
  have : ∀ {kvs : List NE} {xs : List (NK × Addr × Value)}, RelN kvs xs → (∀ x ∈ kvs, KeyAt X.K H x.1 x.2.1) → ∀ y ∈ xs, KeyAt X.K H y.1 y.2.1 := by
    intro kvs xs r
    induction r with
    | nil => intro _ y hy; simp at hy
    | @cons a b as bs h t ih =>
      intro hk y hy
      rcases List.mem_cons.mp hy with rfl | hy
      · have := hk _ (List.mem_cons_self ..)
        rw [h.1, h.2.1] at this; exact this
      · exact ih (fun x hx => hk x (List.mem_cons_of_mem _ hx)) y hy
  exact key_is I (this r x.ks y hy)
theorem relN_len {xs : List (NK × Addr × Value)} (r : RelN kvs xs) : xs.length = kvs.length := (Paired.length r).symm
end
/-- the stack's room -/
theorem roomN {P : Program} {w : World} {A : Around} {k : Nat} (hr : Room k A) : (nestedKind P w).room A.in1 := by
  have := hr.un
  show A.units + 1 + 8 < cLine
  omega
theorem roomN0 {P : Program} {w : World} {A : Around} {k : Nat} (hr : Room k A) : (nestedKind P w).room A := by
  have := hr.un
  show A.units + 8 < cLine
  omega
theorem roomN2 {P : Program} {w : World} {A : Around} {k : Nat} (hr : Room k A) : (nestedKind P w).room A.in1.in1 := by
  have := hr.un
  show A.units + 1 + 1 + 8 < cLine
  omega
section
variable {X : Cx} {k0 : Nat} {o i e f : Expr} {pos apos cpos : Pos} {td ty tv tx : TE}
/-- d[y] -/
def tDGetN (P : Program) (w : World) (K : PySem.W.Frag) (td ty : TE) : TE := fun σ H Q => td σ H fun x H1 => ty σ H1 fun y H2 => ∃ (d b : Addr) (kvs : List NE) (k : NK) (v : V), x = .ref d ∧ y = .ref b ∧ ND P w K H2 d kvs ∧ KeyAt K H2 k b ∧ atN kvs k = some v ∧ Q v H2
theorem pe_dgetN (hr : Room k0 X.A) (ho : PE X o td) (hi : PE X i ty) (hs : NoSl i) : PE X (.Subscript o i pos) (tDGetN X.prog X.w X.K td ty) := by
  refine ⟨fun pins s σ H Q I h => ?_⟩
  refine subD_of PySem.F.slot_dict_getitem.lookup hs (thn (ho.run pins s σ H _ I h) fun u s1 ⟨x, H1, I1, rx, q1⟩ => thn (hi.run pins s1 σ H1 _ I1 q1) fun iv s2 ⟨y, H2, I2, ry, hh⟩ => ?_)
  obtain ⟨d, b, kvs, k, v, rfl, rfl, nd, hk, hv, q⟩ := hh
  cases rx; cases ry
  obtain ⟨hd, xs, r, m⟩ := nd_of I2 nd
  refine ⟨m.typeIs, ?_⟩
  have ra := r.at k
  rw [hv] at ra
  cases ea : atKey xs k with
  | none => rw [ea] at ra; exact False.elim ra
  | some p =>
    rw [ea] at ra
    exact wpAny_getItem_heap (roomN hr) (key_is I2 hk) m ea ⟨v, H2, I2.tok _, ra, q⟩
/-- y not in d -/
def tDNotInN (P : Program) (w : World) (K : PySem.W.Frag) (ty td : TE) : TE := fun σ H Q => ty σ H fun y H1 => td σ H1 fun x H2 => ∃ (d b : Addr) (kvs : List NE) (k : NK), x = .ref d ∧ y = .ref b ∧ ND P w K H2 d kvs ∧ KeyAt K H2 k b ∧ Q (.bl (!(atN kvs k).isSome)) H2
theorem pc_dnotinN (hr : Room k0 X.A) (hi : PE X i ty) (ho : PE X o td) : PC X .NotIn i o (tDNotInN X.prog X.w X.K ty td) := by
  refine ⟨fun pins s σ H Q I h => ?_⟩
  refine thn (hi.run pins s σ H _ I h) fun iv s1 ⟨y, H1, I1, ry, q1⟩ => thn (ho.run pins s1 σ H1 _ I1 q1) fun u s2 ⟨x, H2, I2, rx, hh⟩ => ?_
  obtain ⟨d, b, kvs, k, rfl, rfl, nd, hk, q⟩ := hh
  cases rx; cases ry
  obtain ⟨hd, xs, r, m⟩ := nd_of I2 nd
  refine notIn_keyed (roomN hr) (key_is I2 hk) hd ⟨xs, m, rfl⟩ ⟨.bl _, H2, I2.tok _, ?_, q⟩
  rw [valueAt_pairsH, Option.isSome_map, r.some_iff]
  rfl
/-- d[y] = v -/
def rSetN (P : Program) (w : World) (K : PySem.W.Frag) : TSet := fun x y v H Q => ∃ (d b : Addr) (kvs : List NE) (k : NK), x = .ref d ∧ y = .ref b ∧ ND P w K H d kvs ∧ KeyAt K H k b ∧ kvs.length < 100000 ∧
  ∀ o, ND P w K (upd H d o) d (putN kvs k b v) → Q (upd H d o)
theorem nd_put {P : Program} {w : World} {K : PySem.W.Frag} {H : Hp} {d b : Addr} {kvs : List NE} {k : NK} {v : V} (nd : ND P w K H d kvs) (hk : KeyAt K H k b) : ND P w K (upd H d (oN P w d (putN kvs k b v))) d (putN kvs k b v) :=
  ⟨upd_same, fun y hy => by
    have t : Tx H (upd H d (oN P w d (putN kvs k b v))) := .upd nd.noTup
    rcases putN_mem hy with ⟨z, hz, e1, e2⟩ | ⟨e1, e2⟩
    · rw [← e1, ← e2]; exact (nd.ks z hz).tx t
    · rw [e1, e2]; exact hk.tx t⟩
theorem set_N (hr : Room k0 X.A) : PSet X (rSetN X.prog X.w X.K) := by
  intro pins s σ H o i v ov iv u Q I ro ri rv h
  obtain ⟨d, b, kvs, k, rfl, rfl, nd, hk, hl, q⟩ := h
  cases ro; cases ri
  obtain ⟨hd, xs, r, m⟩ := nd_of I nd
  refine wpAny_setItem_heap (hsz := by rw [relN_len r]; exact Evl.sz_of (by omega)) (roomN hr) (key_is I hk) m fun h' m' sb => ?_
  have he : ∃ z, h'.get? d = some z := let ⟨z, _, _, hz, _⟩ := m'; ⟨z, hz⟩
  refine ⟨_, I.write (x := d) (e := d) (o := oN X.prog X.w d (putN kvs k b v)) (t' := s.toks + _) (by rw [nd.ob]; trivial) (.inl rfl) (fun c z hc e => (sb.2 c hc).trans e) he (ok_N hd (r.put k b rv) m'), q _ (nd_put nd hk)⟩
/-- d.setdefault(y, z) -/
def tDSetdN (P : Program) (w : World) (K : PySem.W.Frag) (td ty tx : TE) : TE := fun σ H Q => td σ H fun x H1 => ∃ (d : Addr), x = .ref d ∧ (∃ kvs, ND P w K H1 d kvs) ∧ ty σ H1 fun y H2 => tx σ H2 fun z H3 => ∃ (b : Addr) (kvs : List NE) (k : NK),
  y = .ref b ∧ ND P w K H3 d kvs ∧ KeyAt K H3 k b ∧ kvs.length < 100000 ∧ (∀ v, atN kvs k = some v → Q v H3) ∧ (atN kvs k = none → ∀ o, ND P w K (upd H3 d o) d (kvs ++ [(k, b, z)]) → Q z (upd H3 d o))
theorem pe_dsetdN (hr : Room k0 X.A) (ho : PE X o td) (he : PE X e ty) (hf : PE X f tx) (m : M2 X o "setdefault" apos e f cpos) : PE X (.Call (.Attribute o "setdefault" apos) [e, f] [] cpos) (tDSetdN X.prog X.w X.K td ty tx) := by
  refine ⟨fun pins s σ H Q I h => ?_⟩
  refine wpAny_Call_method m.base m.few m.line PySem.F.plainAttrs_dict PySem.F.slot_dict_setdefault PySem.F.type_dict_setdefault
    (thn (ho.run pins s σ H _ I h) fun u s1 ⟨x, H1, I1, rx, d, ex, ⟨kv0, nd0⟩, q1⟩ => ?_)
  subst ex
  cases rx
  obtain ⟨_, xs0, r0, m0⟩ := nd_of I1 nd0
  obtain ⟨ob, _, _, hob, hec, _⟩ := id m0
  refine ⟨m0.typeIs, fun c hc => by cases hc; exact ⟨ob, hob, hec.2.1⟩, ?_⟩
  rw [m.trees]
  refine Calls.callWith_builtin rfl (Calls.evalArgs_plain (Calls.spliced_cons
    (thn (he.run pins s1 σ H1 _ I1 q1) fun iv s2 ⟨y, H2, I2, ry, q2⟩ => Calls.spliced_cons
      (thn (hf.run pins s2 σ H2 _ I2 q2) fun fv s3 ⟨z, H3, I3, rz, hh⟩ => Calls.spliced_nil ?_))))
  obtain ⟨b, kvs, k, rfl, nd, hk, hl, qs, qn⟩ := hh
  cases ry
  obtain ⟨hd, xs, r, mm⟩ := nd_of I3 nd
  refine call_setdefault_heap (hsz := by rw [relN_len r]; exact Evl.sz_of (by omega)) (roomN hr) (key_is I3 hk) hd mm (fun p hp => ?_) fun hn h' m' sb => ?_
  · have ra := r.at k
    rw [hp] at ra
    cases ea : atN kvs k with
    | none => rw [ea] at ra; exact False.elim ra
    | some v => rw [ea] at ra; exact ⟨v, H3, I3.tok _, ra, qs v ea⟩
  · have en : atN kvs k = none := by
      have := r.some_iff k
      rw [hn] at this
      simpa using this
    have hex : ∃ z, h'.get? d = some z := let ⟨z, _, _, hz, _⟩ := m'; ⟨z, hz⟩
    have hrel := r.put k b rz
    have hnd := nd_put (v := z) nd hk
    rw [putN_new b z en] at hrel hnd
    exact ⟨z, _, I3.write (x := d) (e := d) (o := oN X.prog X.w d (kvs ++ [(k, b, z)])) (t' := s3.toks + _) (by rw [nd.ob]; trivial) (.inl rfl) (fun c z hc e => (sb.2 c hc).trans e) hex (ok_N hd hrel m'), rz, qn en _ hnd⟩
/-- {} -/
def tDNewN (P : Program) (w : World) (K : PySem.W.Frag) : TE := fun _ H Q => ∀ p, H p = none → ∀ o, ND P w K (upd H p o) p [] → Q (.ref p) (upd H p o)
theorem pe_dnewN : PE X (.Dict [] [] pos) (tDNewN X.prog X.w X.K) := by
  refine ⟨fun pins s σ H Q I h => ?_⟩
  have hd : (s.heap.objs.size == sysModules) = false := beq_eq_false_iff_ne.mpr (Nat.ne_of_gt I.big)
  have new : ObjOk X.prog X.w (upd H s.heap.objs.size (oN X.prog X.w s.heap.objs.size [])) (s.heap.push { cls := .type "dict", data := .dict #[] }) s.heap.objs.size (oN X.prog X.w s.heap.objs.size []) := ok_N hd .nil (Heap.DictOfH.new s.heap)
  refine wpAny_Dict_empty ⟨.ref _, _, I.laid (t' := s.toks) (o := oN X.prog X.w s.heap.objs.size []) (fun b u e => Heap.get?_push_of_some _ e) (Nat.le_refl _) new, rfl, ?_⟩
  exact h _ (I.hok.fresh (Nat.le_refl _)) _ ⟨upd_same, fun x hx => by simp at hx⟩
/-- len(d) -/
def rLenN (P : Program) (w : World) (K : PySem.W.Frag) : List V → Hp → VK → Prop := fun xs H Q => ∃ (d : Addr) (kvs : List NE), xs = [.ref d] ∧ ND P w K H d kvs ∧ kvs.length < 100000 ∧ Q (.int kvs.length) H
theorem cb_lenN : CallR X (.builtin "len") (rLenN X.prog X.w X.K) := by
  intro pins s σ H xs us Q I r h
  obtain ⟨d, kvs, rfl, nd, hl, q⟩ := h
  obtain ⟨u, rfl, ru⟩ := vals1 r
  cases ru
  obtain ⟨hd, ys, r, m⟩ := nd_of I nd
  have hk : s.heap.DictKeyed (nestedKind X.prog X.w) d (pairsH ys) := ⟨ys, m, rfl⟩
  have hlen : (pairsH ys).length = kvs.length := by rw [pairsH_length, relN_len r]
  have hsz : kvs.length ≤ sizeLine := Evl.sz_of (by omega)
  rw [sizeLine_eq] at hsz
  refine PyProof.Rows.call_len_slot (n := (pairsH ys).length) hk.typeIs F.slot_dict_len (fun Q' hq => len_keyed hd hk hq) (by omega) (by omega) ?_
  rw [hlen]
  exact ⟨.int _, H, I.tok _, ⟨_, rfl⟩, q⟩
/-- dict(list of pairs) -/
def rDictN (P : Program) (w : World) (K : PySem.W.Frag) : List V → Hp → VK → Prop := fun xs H Q => ∃ (a : Addr) (ts : List Addr) (ps : List NE), xs = [.ref a] ∧ SqL K H a (ts.map V.ref) ∧ ts.length < 100000 ∧
  Paired (fun t (p : NE) => SqT K H t [.ref p.2.1, p.2.2] ∧ KeyAt K H p.1 p.2.1) ts ps ∧ ∀ p, H p = none → ∀ o, ND P w K (upd H p o) p (allN [] ps) → Q (.ref p) (upd H p o)
theorem allN_keys {K : PySem.W.Frag} {H : Hp} : ∀ {ps kvs : List NE}, (∀ x ∈ kvs, KeyAt K H x.1 x.2.1) → (∀ x ∈ ps, KeyAt K H x.1 x.2.1) → ∀ x ∈ allN kvs ps, KeyAt K H x.1 x.2.1
  | [], _, h, _ => h
  | p :: ps, kvs, h, hp => allN_keys (kvs := putN kvs p.1 p.2.1 p.2.2) (fun x hx => by
      rcases putN_mem hx with ⟨z, hz, e1, e2⟩ | ⟨e1, e2⟩
      · rw [← e1, ← e2]; exact h z hz
      · rw [e1, e2]; exact hp p (List.mem_cons_self ..)) fun x hx => hp x (List.mem_cons_of_mem _ hx)
theorem pairsN {pins : List (Addr × Obj)} {σ : L2.St} {H : Hp} {s : Shared} (I : Inv X pins σ H s) : ∀ {ts : List Addr} {ps : List NE}, Paired (fun t (p : NE) => SqT X.K H t [.ref p.2.1, p.2.2] ∧ KeyAt X.K H p.1 p.2.1) ts ps →
    ∃ qs : List (NK × Addr × Value), RelN ps qs ∧ qs.length = ts.length ∧ (∀ x ∈ ps, KeyAt X.K H x.1 x.2.1) ∧ ∀ (j : Nat) (q : NK × Addr × Value), qs[j]? = some q → ∃ t, ts[j]? = some t ∧ IsTup s.heap t #[.ref q.2.1, q.2.2] ∧ KeyAt X.K H q.1 q.2.1
  | _, _, .nil => ⟨[], .nil, rfl, fun x hx => by simp at hx, fun j q e => by simp at e⟩
  | _, _, .cons (a := t) (b := p) h rest => by
    obtain ⟨qs, r, hl, hks, hq⟩ := pairsN I rest
    obtain ⟨its, rv, ht, _⟩ := I.tuple h.1
    obtain ⟨u, y, ei, ru, ry⟩ := vals2 rv
    subst ei
    cases ru
    refine ⟨(p.1, p.2.1, y) :: qs, .cons ⟨rfl, rfl, ry⟩ r, by simp [hl], fun x hx => ?_, fun j q e => ?_⟩
    · rcases List.mem_cons.mp hx with rfl | hx
      · exact h.2
      · exact hks x hx
    · cases j with
      | zero => simp at e; subst e; exact ⟨t, rfl, ht, h.2⟩
      | succ j =>
        obtain ⟨c, e1, e2⟩ := hq j q (by simpa using e)
        exact ⟨c, by simpa using e1, e2⟩
theorem cb_dictN (hc : X.calm = true) (hr : Room k0 X.A) : CallR X (.type "dict") (rDictN X.prog X.w X.K) := by
  intro pins s σ H xs us Q I r h
  obtain ⟨a, ts, ps, rfl, hl, hz, hp, q⟩ := h
  obtain ⟨u, rfl, ru⟩ := vals1 r
  cases ru
  obtain ⟨qs, rel, hlen, hks, hq⟩ := pairsN I hp
  obtain ⟨its, rv, ⟨o, n, ho, ho1, ho2, ho3⟩, _⟩ := I.list hl
  have ei := refs_at rv
  subst ei
  have hd : (s.heap.objs.size == sysModules) = false := beq_eq_false_iff_ne.mpr (Nat.ne_of_gt I.big)
  have hP := PairArg.list (prog := X.prog) (w := X.w) a (ts.map Value.ref).toArray (fun j => ts.getD j 0) (qs.map fun q => (Value.ref q.2.1, q.2.2))
  have hok : PlainSeq "list" s.heap a (ts.map Value.ref).toArray ∧ PairItems s.heap (ts.map Value.ref).toArray (fun j => ts.getD j 0) (qs.map fun q => (Value.ref q.2.1, q.2.2)) := by
    refine ⟨⟨o, n, ho, ho1, ho2, ho3⟩, by simp [hlen], fun j k v hj => ?_⟩
    rw [List.getElem?_map] at hj
    cases e : qs[j]? with
    | none => rw [e] at hj; simp at hj
    | some x =>
      rw [e] at hj
      simp only [Option.map_some, Option.some.injEq, Prod.mk.injEq] at hj
      obtain ⟨rfl, rfl⟩ := hj
      obtain ⟨t, e1, e2, e3⟩ := hq j x e
      have e4 : ts.getD j 0 = t := getD_some e1
      refine ⟨?_, .inl ?_⟩
      · show (ts.map Value.ref).toArray[j]? = some (Value.ref (ts.getD j 0))
        rw [e4]; simp [e1]
      · show s.heap.IsTuple (ts.getD j 0) _
        rw [e4]; exact e2
  refine call_dict_pairsH (knd := nestedKind X.prog X.w) (ps := qs) hP (I.ok.hd hc) (roomN2 hr) hok ⟨by simp, fun j key v hr' => ?_⟩ (fun h' hk x hx => ?_) (by rw [List.length_map, hlen]; exact Evl.sz_of (by omega)) fun h' tk m hk => ?_
  · have hj : (qs.map fun q => (Value.ref q.2.1, q.2.2))[j]? = some (key, v) := hr'
    rw [List.getElem?_map] at hj
    cases e : qs[j]? with
    | none => rw [e] at hj; simp at hj
    | some x =>
      rw [e] at hj
      simp only [Option.map_some, Option.some.injEq, Prod.mk.injEq] at hj
      obtain ⟨rfl, rfl⟩ := hj
      exact ⟨x.1, x.2.1, rfl, rfl⟩
  · obtain ⟨j, hj⟩ := List.getElem?_of_mem hx
    obtain ⟨t, _, _, e3⟩ := hq j x hj
    refine nestedKind_stays.stays (fun b ob vs m hb _ => hk b ob (Nat.ne_of_lt (Heap.lt_size hb)) (fun z => by simp at z) hb) (key_is I e3)
  · have hk' : ∀ b u, s.heap.get? b = some u → h'.get? b = some u := fun b u e => hk b u (fun z => by simp at z) e
    have fr := I.hok.fresh (Nat.le_refl s.heap.objs.size)
    exact ⟨.ref _, _, I.laid (t' := tk) (o := oN X.prog X.w s.heap.objs.size (allN [] ps)) hk' (Nat.le_refl _) (ok_N hd (RelN.all rel .nil) m), rfl, q _ fr _ ⟨upd_same, fun x hx => (allN_keys (fun y hy => by simp at hy) hks x hx).tx (.upd (.none fr))⟩⟩
end
end K63
/-! K63Lay4: a display with one tuple key; max of a tuple; zip of a list and a tuple; repr; isinstance; defs as callees. -/
namespace K63
open PySem PySem.Spec PyProof.Rows L2
section
variable {X : Cx} {k0 : Nat}
/-- {k: v}, k a tuple -/
def tDispN (P : Program) (w : World) (K : PySem.W.Frag) (tk tv : TE) : TE := fun σ H Q => ∀ p, H p = none → ∀ o0, ND P w K (upd H p o0) p [] → tk σ (upd H p o0) fun x H1 => tv σ H1 fun y H2 => ∃ (b : Addr) (k : NK), x = .ref b ∧ ND P w K H2 p [] ∧ KeyAt K H2 k b ∧
  ∀ o, ND P w K (upd H2 p o) p [(k, b, y)] → Q (.ref p) (upd H2 p o)
theorem disp_conv {tk tv : TE} {σ : L2.St} {H : Hp} {R : V → V → Hp → Prop} (h : tk σ H fun x H1 => tv σ H1 fun y H2 => R x y H2) : tk σ H fun x H1 => tv σ H1 fun y H2 => ∃ x' y', [(x, y)] = [(x', y')] ∧ R x' y' H2 := by
  have e : (fun x H1 => tv σ H1 fun y H2 => ∃ x' y', [(x, y)] = [(x', y')] ∧ R x' y' H2) = fun x H1 => tv σ H1 fun y H2 => R x y H2 := by
    funext x H1
    congr 1
    funext y H2
    refine propext ⟨?_, fun h => ⟨x, y, rfl, h⟩⟩
    rintro ⟨x', y', e, h⟩
    simp at e
    rw [e.1, e.2]; exact h
  rw [e]; exact h
theorem pe_dispN {k v : Expr} {pos : Pos} {tk tv : TE} (hr : Room k0 X.A) (hk : PE X k tk) (hv : PE X v tv) : PE X (.Dict [some k] [v] pos) (tDispN X.prog X.w X.K tk tv) := by
  refine ⟨fun pins s σ H Q I h => ?_⟩
  have hd : (s.heap.objs.size == sysModules) = false := beq_eq_false_iff_ne.mpr (Nat.ne_of_gt I.big)
  have hf := I.hok.fresh (Nat.le_refl s.heap.objs.size)
  have new : ObjOk X.prog X.w (upd H s.heap.objs.size (oN X.prog X.w s.heap.objs.size [])) (s.heap.push { cls := .type "dict", data := .dict #[] }) s.heap.objs.size (oN X.prog X.w s.heap.objs.size []) := ok_N hd .nil (Heap.DictOfH.new s.heap)
  have I1 := I.laid (t' := s.toks) (o := oN X.prog X.w s.heap.objs.size []) (fun b u e => Heap.get?_push_of_some _ e) (Nat.le_refl _) new
  have hh := h _ hf _ ⟨upd_same, fun x hx => by simp at hx⟩
  have shape : (evalEachOpt [some k] X.env).zip ((evalEach [v] X.env).map fun t => do let x ← t; standAt pos; pure x) = (pairTrees [some k] [v] X.env pos).map fun p => (some p.1, p.2) := rfl
  rw [arm_eval_Dict, shape, dictDisplay_pairs (pairTrees [some k] [v] X.env pos) (fun z => by cases z) (by show 1 < 17; decide)]
  refine wpAny_bind (wpAny_standAt (wpAny_bind (wpAny_subDictH (knd := nestedKind X.prog X.w) (Q := fun d s' => wpAny (model X.prog X.w) X.A (pure (Value.ref d)) (EP X pins σ Q) X.xe s') (roomN0 hr) (by show 1 ≤ 15; decide) ?_)))
  refine thn ((pps_cons hk hv pps_nil).run pins _ σ _ (fun ps H2 => ∃ x y, ps = [(x, y)] ∧ ∃ (b : Addr) (k : NK), x = .ref b ∧ ND X.prog X.w X.K H2 s.heap.objs.size [] ∧ KeyAt X.K H2 k b ∧
    ∀ o, ND X.prog X.w X.K (upd H2 s.heap.objs.size o) s.heap.objs.size [(k, b, y)] → Q (.ref s.heap.objs.size) (upd H2 s.heap.objs.size o)) I1 ?_) fun vs s2 hq => ?_
  · exact disp_conv hh
  · obtain ⟨ps, H2, I2, rel, x, y, rfl, b, kk, rfl, nd, hka, q⟩ := hq
    cases rel with
    | @cons p q' _ _ r1 r2 =>
      cases r2
      obtain ⟨u1, u2⟩ := q'
      obtain ⟨ru, rv⟩ := r1
      cases ru
      obtain ⟨_, xs, r, m⟩ := nd_of I2 nd
      cases r
      refine ⟨[(kk, b, u2)], ⟨rfl, rfl, key_is I2 hka, trivial⟩, m, fun h' tk' m' sb => ?_⟩
      have he : ∃ z, h'.get? s.heap.objs.size = some z := let ⟨z, _, _, hz, _⟩ := m'; ⟨z, hz⟩
      have t : Tx H2 (upd H2 s.heap.objs.size (oN X.prog X.w s.heap.objs.size [(kk, b, y)])) := .upd nd.noTup
      refine wpAny_pure ⟨.ref _, _, I2.write (x := s.heap.objs.size) (e := s.heap.objs.size) (o := oN X.prog X.w s.heap.objs.size [(kk, b, y)]) (t' := tk') (by rw [nd.ob]; trivial) (.inl rfl) (fun c z hc e => (sb.2 c hc).trans e) he
        (ok_N hd (.cons ⟨rfl, rfl, rv⟩ .nil) m'), rfl, q _ ⟨upd_same, fun z hz => ?_⟩⟩
      simp at hz
      subst hz
      exact hka.tx t
/-- max of a tuple of whole numbers -/
def rMaxT (K : PySem.W.Frag) : List V → Hp → VK → Prop := fun vs H Q => ∃ (a : Addr) (n : Int) (ns : List Int), vs = [V.ref a] ∧ SqT K H a ((n :: ns).map V.int) ∧ Q (.int (ns.foldl max n)) H
theorem diInts {K : PySem.W.Frag} {H : Hp} : ∀ ns : List Int, DiAll K H (ns.map V.int) (ns.map PyData.int)
  | [] => .nil
  | n :: ns => .cons (.int n) (diInts ns)
theorem cr_maxT (hc : X.calm = true) (hr : Room k0 X.A) : CallR X (.builtin "max") (rMaxT X.K) := by
  intro pins s σ H vs us Q I r h
  obtain ⟨a, n, ns, rfl, hs, q⟩ := h
  obtain ⟨its, rv, ht, _⟩ := I.tuple hs
  rw [Vals.ref1 r]
  obtain ⟨as, ra⟩ := Dp.readsAll I _ _ _ (DiAll.dp _ _ (diInts (K := X.K) (H := H) (n :: ns))) rv
  have hal : PySem.W.AlikeAll ((n :: ns).map PyData.int) := PySem.W.alikeAll_datum (α := Int) (n :: ns)
  have hdep : PyData.depthAll ((n :: ns).map PyData.int) = 0 := by
    have : ∀ l : List Int, PyData.depthAll (l.map PyData.int) = 0 := by
      intro l
      induction l with
      | nil => rfl
      | cons x l ih => simp only [List.map_cons, PyData.depthAll, PyData.depth, ih]; rfl
    exact this _
  refine PySem.W.max_tuple_data (I.ok.hd hc) ht (by simpa using ra) hal ?_ fun i v h' tk bs hi rd hk => ?_
  · have := hr.un
    show X.A.units + 1 + PyData.depthAll ((n :: ns).map PyData.int) < cLine
    rw [hdep]; omega
  · rw [PySem.W.maxD_ints] at rd
    cases rd
    exact ⟨.int _, H, I.kept (t' := tk) hk, ⟨_, rfl⟩, q⟩
/-- repr of data that may be shown -/
def rRepr (K : PySem.W.Frag) : List V → Hp → VK → Prop := fun vs H Q => ∃ (x : V) (d : PyData), vs = [x] ∧ Dp K H x d ∧ d.showable = true ∧ d.hasDict = false ∧ d.shown.length ≤ sizeLine ∧ d.depth ≤ 100 ∧ Q (.str d.shown) H
theorem cb_repr (hg : X.A.guards = some []) (hr : Room k0 X.A) : CallR X (.builtin "repr") (rRepr X.K) := by
  intro pins s σ H vs us Q I r h
  obtain ⟨x, d, rfl, hd, hs, hn, hz, hdep, q⟩ := h
  obtain ⟨u, rfl, ru⟩ := vals1 r
  obtain ⟨as, rd⟩ := Dp.reads I d x u hd ru
  have hun := hr.un
  cases rd with
  | none => exact PySem.P.repr_of_none ⟨.str _, H, I.tok _, ⟨_, rfl⟩, q⟩
  | bool b => exact PySem.P.repr_of_bool ⟨.str _, H, I.tok _, ⟨_, rfl⟩, q⟩
  | int i t => exact PySem.P.repr_of_int (by simpa [PyData.showable] using hs) ⟨.str _, H, I.tok _, ⟨_, rfl⟩, q⟩
  | str y t => exact PySem.P.repr_of_str ⟨.str _, H, I.tok _, ⟨_, rfl⟩, q⟩ (by simpa [PyData.shown] using hz)
  | list h1 h2 h3 h4 => exact repr_of_reads' (.list h1 h2 h3 h4) hs (PyData.noDict_hsm hn) hg (by omega) (fun _ _ e => e) (fun h' u tk hk => ⟨.str _, H, I.kept (t' := tk) hk, ⟨_, rfl⟩, q⟩) hz
  | tuple h1 h2 h3 h4 => exact repr_of_reads' (.tuple h1 h2 h3 h4) hs (PyData.noDict_hsm hn) hg (by omega) (fun _ _ e => e) (fun h' u tk hk => ⟨.str _, H, I.kept (t' := tk) hk, ⟨_, rfl⟩, q⟩) hz
  | dict h1 h2 h3 h4 h5 => simp [PyData.hasDict] at hn
end
end K63
/-! K63Lay5: zip of a list and a tuple. -/
namespace K63
open PySem PySem.Spec PyProof.Rows L2 RZ
/-- the list at a, the tuple at b, as they stand at each turn -/
def ItzM (K : PySem.W.Frag) (a b : Addr) : It :=
  ⟨fun i H => ∃ (xs ys : List V) (x y : V), SqL K H a xs ∧ SqT K H b ys ∧ xs[i]? = some x ∧ ys[i]? = some y,
   fun i H v H' => ∃ T x y, v = .ref T ∧ H T = none ∧ H' = upd H T (.tup [x, y]) ∧
     (∀ xs, SqL K H a xs → xs[i]? = some x) ∧ (∀ ys, SqT K H b ys → ys[i]? = some y),
   fun i H => ∃ xs ys : List V, SqL K H a xs ∧ SqT K H b ys ∧ i ≤ xs.length ∧ i ≤ ys.length ∧ (i = xs.length ∨ i = ys.length)⟩
/-- the five new objects of a zip -/
def five (N : Nat) : List Addr := [N + 4, N + 2, N + 3, N, N + 1]
theorem five_le {N c : Nat} (h : c ∈ five N) : N ≤ c := by
  simp [five] at h
  omega
def tnM (N : Nat) (a b : Addr) (i : Nat) (h : Heap) : Prop := IsZip h (N + 4) (N + 2) (N + 3) .none ∧ IsTupOf2 h (N + 2) (.ref N) (.ref (N + 1)) ∧ (∃ x y, IsTupOf2 h (N + 3) x y) ∧ h.IsListIter N a i ∧ h.IsTupleIter (N + 1) b i
theorem turnM {P : Program} {w : World} {K : PySem.W.Frag} {elts : List Expr} {kk : Nat} {tpos : Pos} {a b : Addr} {N : Nat} (la : a < N) (lb : b < N) :
    Turn P w K (.Tuple elts kk tpos) (ItzM K a b) (five N) (N + 4) (tnM N a b) where
  mem := by simp [five]
  obj := fun i h st c hc => by
    obtain ⟨hz, hT, ⟨x, y, hO⟩, ⟨o1, e1, _, d1⟩, ⟨o2, e2, _, d2⟩⟩ := st
    simp only [five, List.mem_cons, List.not_mem_nil, or_false] at hc
    rcases hc with rfl | rfl | rfl | rfl | rfl
    · exact ⟨_, hz, nofun⟩
    · exact ⟨_, hT, nofun⟩
    · exact ⟨_, hO, nofun⟩
    · exact ⟨o1, e1, fun v q => by rw [d1] at q; cases q⟩
    · exact ⟨o2, e2, fun v q => by rw [d2] at q; cases q⟩
  keep := fun i h h' st k => by
    obtain ⟨hz, hT, ⟨x, y, hO⟩, h1, h2⟩ := st
    have m : ∀ c, c ∈ five N → ∀ o, h.get? c = some o → h'.get? c = some o := k
    exact ⟨m _ (by simp [five]) _ hz, m _ (by simp [five]) _ hT, ⟨x, y, m _ (by simp [five]) _ hO⟩, h1.at fun o q => m N (by simp [five]) o q, h2.at fun o q => m (N + 1) (by simp [five]) o q⟩
  item := by
    intro X hP hw hK hc i pins s σ H E I hf st hg
    subst hP hw hK
    obtain ⟨hz, hT, ⟨x0, y0, hO⟩, h1, h2⟩ := st
    obtain ⟨xs, ys, x, y, qx, qy, hx, hy⟩ := hg
    obtain ⟨its, rv, p, _⟩ := I.list qx
    obtain ⟨its2, rv2, p2, _⟩ := I.tuple qy
    obtain ⟨u, hu, ru⟩ := rv.get hx
    obtain ⟨u2, hu2, ru2⟩ := rv2.get hy
    have hd := I.ok.hd hc
    have S : ZipSep2 (N + 4) (N + 2) (N + 3) N (N + 1) (N :: [a]) ((N + 1) :: [b]) := zip_sep2 (fun c h => by simp at h; rw [h]; exact la) (fun c h => by simp at h; rw [h]; exact lb)
    have D1 := Draws.list (prog := X.prog) (w := X.w) (A := X.A.in1) hd N a (Nat.ne_of_lt la) its.toArray
    have D2 := Draws.tuple (prog := X.prog) (w := X.w) (A := X.A.in1) hd (N + 1) b (Nat.ne_of_lt (Nat.lt_succ_of_lt lb)) its2.toArray
    have hi1 : i < its.length := (List.getElem?_eq_some_iff.mp hu).1
    have hi2 : i < its2.length := (List.getElem?_eq_some_iff.mp hu2).1
    have hzl : N + 4 < s.heap.objs.size := Heap.lt_size hz
    refine wpAny_pyNext_zipD2_item S D1 D2 hz hT hO ⟨h1, p.isList⟩ ⟨h2, p2⟩ (by simpa using hi1) (by simpa using hi2) ?_
    intro x1 x2 h' tk P1 P2 z' O' s1 s2 nT hsz hk
    have eu : u = x1 := by simpa [hu] using P1
    have eu2 : u2 = x2 := by simpa [hu2] using P2
    subst eu eu2
    refine ⟨_, rfl, wpAny_letOwnedTupleGo_zip (s := { s with heap := h', toks := tk }) z' fun h'' z'' sb => ?_⟩
    have nT2 := (sb.2 s.heap.objs.size (Nat.ne_of_gt hzl)).trans nT
    have new : ObjOk X.prog X.w (upd H s.heap.objs.size (.tup [x, y])) h'' s.heap.objs.size (.tup [x, y]) := ⟨by show 2 ≤ sizeLine; decide, [u, u2], .cons ru (.cons ru2 .nil), _, nT2, rfl, _, rfl⟩
    have kept : ∀ c o, c ∉ five N → s.heap.get? c = some o → h''.get? c = some o := fun c o hc q => by
      simp only [five, List.mem_cons, List.not_mem_nil, or_false, not_or] at hc
      exact (sb.2 c hc.1).trans (hk c o hc.1 hc.2.2.1 hc.2.2.2.1 hc.2.2.2.2 q)
    have I1 : Inv X pins σ (upd H s.heap.objs.size (.tup [x, y])) { s with heap := h'', toks := tk } := I.turnedNew (t' := tk) (ch := five N) kept hf (Nat.le_refl _) new
    have fr := I.hok.fresh (Nat.le_refl s.heap.objs.size)
    refine ⟨.ref s.heap.objs.size, _, I1, rfl, ⟨_, x, y, rfl, fr, rfl, fun l hl => by rw [I.list_inj hl qx]; exact hx, fun l hl => by rw [I.tuple_inj hl qy]; exact hy⟩, ⟨z'', ?_, ⟨u, u2, ?_⟩, ?_, ?_⟩, fun c hcm => ?_⟩
    · exact (sb.2 _ S.TIz).trans (hk _ _ S.TIz S.TITO S.TIi1 S.TIi2 hT)
    · exact (sb.2 _ S.TOz).trans O'
    · exact s1.1.at fun o q => (sb.2 _ (Ne.symm S.zi1)).trans q
    · exact s2.1.at fun o q => (sb.2 _ (Ne.symm S.zi2)).trans q
    · have hlt : c < s.heap.objs.size := by
        have hN : ∀ j : Nat, j ≤ 4 → N + j < s.heap.objs.size := fun j hj => Nat.lt_of_le_of_lt (Nat.add_le_add_left hj N) hzl
        simp only [five, List.mem_cons, List.not_mem_nil, or_false] at hcm
        rcases hcm with rfl | rfl | rfl | rfl | rfl
        · exact hN 4 (by omega)
        · exact hN 2 (by omega)
        · exact hN 3 (by omega)
        · exact hN 0 (by omega)
        · exact hN 1 (by omega)
      rw [upd_ne (Nat.ne_of_lt hlt)]
      exact (hf c hcm).1
  done := by
    intro X hP hw hK hc i pins s σ H E I hf st hg
    subst hP hw hK
    obtain ⟨hz, hT, ⟨x0, y0, hO⟩, h1, h2⟩ := st
    obtain ⟨xs, ys, qx, qy, l1, l2, hend⟩ := hg
    obtain ⟨its, rv, p, _⟩ := I.list qx
    obtain ⟨its2, rv2, p2, _⟩ := I.tuple qy
    have e1 := rv.length
    have e2 := rv2.length
    have hd := I.ok.hd hc
    have S : ZipSep2 (N + 4) (N + 2) (N + 3) N (N + 1) (N :: [a]) ((N + 1) :: [b]) := zip_sep2 (fun c h => by simp at h; rw [h]; exact la) (fun c h => by simp at h; rw [h]; exact lb)
    have D1 := Draws.list (prog := X.prog) (w := X.w) (A := X.A.in1) hd N a (Nat.ne_of_lt la) its.toArray
    have D2 := Draws.tuple (prog := X.prog) (w := X.w) (A := X.A.in1) hd (N + 1) b (Nat.ne_of_lt (Nat.lt_succ_of_lt lb)) its2.toArray
    refine wpAny_pyNext_zipD2_end S D1 D2 hz hT hO ⟨h1, p.isList⟩ ⟨h2, p2⟩ (by simp; omega) (by simp; omega) (by simp; omega) fun h' tk hk => ⟨rfl, ?_⟩
    refine I.turnedL (t' := tk) (ch := five N) (fun c o hc q => ?_) hf
    simp only [five, List.mem_cons, List.not_mem_nil, or_false, not_or] at hc
    exact hk c o hc.1 hc.2.2.1 hc.2.2.2.1 hc.2.2.2.2 q
  self := fun A i s Q E st h => wpAny_pyIter_zip st.1 h
def iZipM (K : PySem.W.Frag) (ta : TA) : TI := fun σ H R => ta σ H fun vs H1 => ∃ a b xs ys, vs = [.ref a, .ref b] ∧ SqL K H1 a xs ∧ SqT K H1 b ys ∧ R (ItzM K a b) H1
theorem pi_zipM {X : Cx} {e e2 : Expr} {ta : TA} {p pos tpos : Pos} {elts : List Expr} {kk : Nat} (hg : Gl X "zip") (hm : X.mg "zip" = none) (ha : PA X [e, e2] ta)
    (hs : starEach [e, e2] X.env = (false, eval e X.env) :: starEach [e2] X.env := by rfl) (hpl : (backTo pos (starEach [e2] X.env)).any (·.1) = false := by rfl) :
    PI X (.Tuple elts kk tpos) (.Call (.Name "zip" p) [e, e2] [] pos) (iZipM X.K ta) := by
  refine ⟨fun pins s σ H R I h => Call_ (ld_blt I hg hm boot_zip (PyProof.Rows.callWith_type1 ?_ hs hpl))⟩
  refine thn (ha.run pos pins s σ H _ I h) fun us s1 ⟨vs, H1, I1, r1, q1⟩ => ?_
  obtain ⟨a, b, xs, ys, rfl, qx, qy, q⟩ := q1
  obtain ⟨u1, u2, rfl, r1, r2⟩ := vals2 r1
  cases r1
  cases r2
  obtain ⟨its, rv, p1, _⟩ := I1.list qx
  obtain ⟨its2, rv2, p2, _⟩ := I1.tuple qy
  obtain ⟨o2, ho2, _⟩ := id p2
  refine zip_begins2 (begins_list a its.toArray) (begins_tuple b its2.toArray) p1.isList p2 fun h' hz hT hO g1 g2 hsz hk => wpAny_pyIter_zip hz ?_
  have I2 : Inv X pins σ H1 { s1 with heap := h' } := I1.kept (t' := s1.toks) hk
  refine ⟨s1.heap.objs.size + 4, five s1.heap.objs.size, tnM s1.heap.objs.size a b, _, H1, rfl, I2, turnM p1.lt (Heap.lt_size ho2), ⟨hz, hT, ⟨_, _, hO⟩, ?_, ?_⟩, fun c hc => I1.fpOk (five_le hc) (I1.hok.fresh (five_le hc)), q⟩
  · exact ⟨_, g1, rfl, rfl⟩
  · exact ⟨_, g2, rfl, rfl⟩
theorem walkM {K : PySem.W.Frag} {a b : Addr} {xs ys : List V} (hl : xs.length = ys.length) : Walk (ItzM K a b) xs.length (fun H => SqL K H a xs ∧ SqT K H b ys) (YPair (fun i => xs[i]?) (fun i => ys[i]?)) := by
  refine ⟨fun i H hi q => ?_, fun H q => ⟨xs, ys, q.1, q.2, Nat.le_refl _, Nat.le_of_eq hl, .inl rfl⟩, fun i H v H' hi q y => ?_⟩
  · obtain ⟨x, hx⟩ := get_of_lt hi
    obtain ⟨y, hy⟩ := get_of_lt (l := ys) (i := i) (by omega)
    exact ⟨xs, ys, x, y, q.1, q.2, hx, hy⟩
  · obtain ⟨T, x, z, e1, e2, e3, e4, e5⟩ := y
    exact ⟨T, x, z, e1, e2, e3, e4 xs q.1, e5 ys q.2⟩
theorem walkT {K : PySem.W.Frag} {a b : Addr} {xs ys : List V} (hl : xs.length = ys.length) : Walk (ItzT K a b) xs.length (fun H => SqT K H a xs ∧ SqT K H b ys) (YPair (fun i => xs[i]?) (fun i => ys[i]?)) := by
  refine ⟨fun i H hi q => ?_, fun H q => ?_, fun i H v H' hi q y => ?_⟩
  · obtain ⟨x, hx⟩ := get_of_lt hi
    obtain ⟨y, hy⟩ := get_of_lt (l := ys) (i := i) (by omega)
    exact ⟨xs, ys, x, y, q.1, q.2, hx, hy⟩
  · exact ⟨xs, ys, q.1, q.2, .inl (Nat.le_refl _)⟩
  · obtain ⟨T, x, z, e1, e2, e3, e4, e5⟩ := y
    exact ⟨T, x, z, e1, e2, e3, e4 xs q.1, e5 ys q.2⟩
section
variable {K : PySem.W.Frag} {σ : L2.St} {H : Hp} {ta tb : TE} {p : Addr}
/-- the pairs of two rows of data -/
def pairsD (ds es : List PyData) : List (PyData × PyData) := ds.zip es
theorem pair_turn {H H' H2 : Hp} {xs ys : List V} {ds es : List PyData} {i : Nat} {v : V} (e3 : Same H2 H) (h1 : DiAll K H2 xs ds) (h2 : DiAll K H2 ys es) (y : YPair (fun i => xs[i]?) (fun i => ys[i]?) i H v H') :
    Same H H' ∧ PDat K ((pairsD ds es).map fun p => PyData.tuple [p.1, p.2]) i v H' := by
  obtain ⟨T, x, z, rfl, nT, rfl, hx, hz⟩ := y
  obtain ⟨d, hd, r1⟩ := h1.at hx
  obtain ⟨e, he, r2⟩ := h2.at hz
  have sm : Same H (upd H T (.tup [x, z])) := Same.new nT
  refine ⟨sm, .tuple [d, e], ?_, .tup (.of upd_same) (.cons ((r1.to e3).to sm) (.one ((r2.to e3).to sm)))⟩
  rw [List.getElem?_map]
  unfold pairsD
  rw [List.getElem?_zip_eq_some (z := (d, e)).mpr ⟨hd, he⟩]; rfl
theorem src_zipM {ds es : List PyData} (ha : EvV ta σ H (.ref p)) (hp : Ls K H p ds) (hb : EvD K tb σ H (.tuple es)) (hl : ds.length = es.length) :
    Src K (iZipM K (tCons ta (tCons tb tNil))) σ H ((pairsD ds es).map fun p => PyData.tuple [p.1, p.2]) := fun H1 e R q => ha H1 e _ fun H2 e2 => hb H2 (e.trans e2) _ fun y H3 e3 hy => by
  obtain ⟨xs, h1, h2⟩ := hp.to ((e.trans e2).trans e3)
  obtain ⟨b, ys, rfl, h3, h4⟩ := hy.inv_tup
  refine ⟨p, b, xs, ys, rfl, .of h1, h3, q _ H3 (e2.trans e3) ?_⟩
  have l1 := h2.len
  have l2 := h4.len
  have en : ((pairsD ds es).map fun p => PyData.tuple [p.1, p.2]).length = xs.length := by
    rw [List.length_map]; unfold pairsD; rw [List.length_zip]; omega
  rw [en]
  exact (walkM (by omega)).mono (fun H4 e4 => ⟨.of (e4 _ _ h1), (Same.tx e4).sq h3⟩) fun i H4 x H5 hi e4 y => pair_turn e4 h2 h4 y
theorem src_zipA {ds es : List PyData} (ha : EvD K ta σ H (.tuple ds)) (hb : EvD K tb σ H (.tuple es)) (hl : ds.length = es.length) :
    Src K (iZipA K (tCons ta (tCons tb tNil))) σ H ((pairsD ds es).map fun p => PyData.tuple [p.1, p.2]) := fun H1 e R q => ha H1 e _ fun x H2 e2 hx => hb H2 (e.trans e2) _ fun y H3 e3 hy => by
  obtain ⟨a, xs, rfl, h1, h2⟩ := (hx.to e3).inv_tup
  obtain ⟨b, ys, rfl, h3, h4⟩ := hy.inv_tup
  refine ⟨a, b, xs, ys, rfl, .inr ⟨h1, h3, q _ H3 (e2.trans e3) ?_⟩⟩
  have l1 := h2.len
  have l2 := h4.len
  have en : ((pairsD ds es).map fun p => PyData.tuple [p.1, p.2]).length = xs.length := by
    rw [List.length_map]; unfold pairsD; rw [List.length_zip]; omega
  rw [en]
  exact (walkT (by omega)).mono (fun H4 e4 => ⟨(Same.tx e4).sq h1, (Same.tx e4).sq h3⟩) fun i H4 x H5 hi e4 y => pair_turn e4 h2 h4 y
end
end K63
/-! K63Lay6: isinstance; the text by places; defs as callees; a def's promise where no repr is running. -/
namespace K63
open PySem PySem.Spec PyProof.Rows L2 RZ
section
variable {K : PySem.W.Frag} {σ : L2.St} {H : Hp} {ta tb : TE} {p : Addr} {d : PyData}
theorem tyx_tup {a : Addr} {xs : List V} (h : SqT K H a xs) : TyX K H (.ref a) (.type "tuple") := by
  rcases h with (h | ⟨o, h⟩) | ⟨o, its, n, h, hc, _⟩
  · exact .base (.tup h)
  · exact .fTuple h
  · exact .kTuple h hc
theorem ed_isi {T1 T2 : String} {b : Bool} (ha : EvD K ta σ H d) (ht : ∀ H v, Di K H v d → TyX K H v (.type T1)) (hk : kitB T1 T2 = some b) : EvD K (tCB (rIsi K) (tCons ta (tCons (tC (.ty T2)) tNil))) σ H (.bool b) := fun H1 e Q q =>
  ha H1 e _ fun v H2 e2 hv => ⟨v, .ty T2, .type T1, .type T2, b, rfl, .ty T2, ht H2 v hv, kit_ty hk, q _ H2 e2 (.bl b)⟩
theorem ty_int {i : Int} : ∀ (H : Hp) (v : V), Di K H v (.int i) → TyX K H v (.type "int") := fun H v h => by rw [h.inv_int]; exact .base (.int i)
theorem ty_tup {ds : List PyData} : ∀ (H : Hp) (v : V), Di K H v (.tuple ds) → TyX K H v (.type "tuple") := fun H v h => by
  obtain ⟨a, xs, rfl, h1, _⟩ := h.inv_tup
  exact tyx_tup h1
end
/-! ### callees -/
structure Cal (P : Program) (w : World) (K : PySem.W.Frag) (mg : Str → Option Value) (base : Heap) (x : Str) (k : Nat) (ps : List Str) (dvs : List V) (sp : Sp) : Prop where
  ex : ∃ (f : Addr) (fd : FuncData) (ds : List Value), FnOk P w K mg base CX0 k f fd ps sp ∧ mg x = some (.ref f) ∧ PySem.W.keepIn K (.ref f) = true ∧ Binds K fd ps ds ∧ Vals dvs ds
theorem pe_callC {X : Cx} {x : Str} {k : Nat} {ps : List Str} {dvs : List V} {sp : Sp} {e : Expr} {es : List Expr} {t : TA} {p pos : Pos} (c : Cal X.prog X.w X.K X.mg X.base x k ps dvs sp) (hr : Room k X.A) (hg : Gl X x) (ha : PA X (e :: es) t)
    (hdb : (x == ("__debug__" : Str)) = false := by decide) (he : starEach (e :: es) X.env = (false, eval e X.env) :: starEach es X.env := by rfl) (hpl : (backTo pos (starEach es X.env)).any (·.1) = false := by rfl) :
    PE X (.Call (.Name x p) (e :: es) [] pos) (tCall sp dvs E0 t) := by
  obtain ⟨f, fd, ds, F, hm, hk, hb, hd⟩ := c.ex
  exact pe_call F hr hg hm hk hb hd pass0 ha hdb he hpl
/-- the built-ins that are still what they were -/
structure Bn (mg : Str → Option Value) : Prop where
  len : mg "len" = none
  tuple : mg "tuple" = none
  int : mg "int" = none
  bool : mg "bool" = none
  list : mg "list" = none
  dict : mg "dict" = none
  isi : mg "isinstance" = none
  all : mg "all" = none
  max : mg "max" = none
  zip : mg "zip" = none
  range : mg "range" = none
  repr : mg "repr" = none
/-! ### the text -/
def topS (i : Nat) : Stmt := PySem.Challenge.pw_ledalong_k63_whole_least_readers.main.body.getD i (.Pass ⟨0, 0, 0, 0⟩)
end K63
/-! K63Lay7: the rules with the written part named (so that they may stand in a comprehension's block). -/
namespace K63
open PySem PySem.Spec PyProof.Rows L2 RZ
section
variable {X : Cx} {P : Program} {w : World} {k0 : Nat} {a b e e2 o i f : Expr} {ta tb te to ti td ty tx : TE} {tas : TA} {pos p p1 p2 p3 apos cpos : Pos} {tg : Expr}
theorem k_isi (K : PySem.W.Frag) (h : X.K = K := by rfl) : CallR X (.builtin "isinstance") (rIsi K) := h ▸ call_isi
theorem k_len (K : PySem.W.Frag) (h : X.K = K := by rfl) : CallR X (.builtin "len") (rLen K) := h ▸ cb_len
theorem k_tup (K : PySem.W.Frag) (h : X.K = K := by rfl) : CallR X (.type "tuple") (rTupOf K) := h ▸ cb_tup
theorem k_all (K : PySem.W.Frag) (hc : X.calm = true := by rfl) (h : X.K = K := by rfl) : CallR X (.builtin "all") (rAll K) := h ▸ cr_all hc
theorem k_max (K : PySem.W.Frag) (hc : X.calm = true := by rfl) (h : X.K = K := by rfl) : CallR X (.builtin "max") (rMax K) := h ▸ cr_max hc
theorem k_maxT (K : PySem.W.Frag) (hr : Room k0 X.A) (hc : X.calm = true := by rfl) (h : X.K = K := by rfl) : CallR X (.builtin "max") (rMaxT K) := h ▸ cr_maxT hc hr
theorem k_repr (K : PySem.W.Frag) (hg : X.A.guards = some []) (hr : Room k0 X.A) (h : X.K = K := by rfl) : CallR X (.builtin "repr") (rRepr K) := h ▸ cb_repr hg hr
theorem k_ixL (K : PySem.W.Frag) (h : X.K = K := by rfl) : IxR X (rIxL K) := h ▸ ix_list
theorem k_ixT (K : PySem.W.Frag) (h : X.K = K := by rfl) : IxR X (rIxT K) := h ▸ ix_tup
theorem k_slL (K : PySem.W.Frag) (h : X.K = K := by rfl) : SlR X (rSlL K) := h ▸ sl_list
theorem k_slT (K : PySem.W.Frag) (h : X.K = K := by rfl) : SlR X (rSlA K) := h ▸ sl_tupA
theorem k_catT (K : PySem.W.Frag) (h : X.K = K := by rfl) : OpR X (binaryOp .Add) (rCatA K) := h ▸ op_catA
theorem k_notIn (K : PySem.W.Frag) (h : X.K = K := by rfl) : OpR X (compareOp .NotIn) (rIn K true) := h ▸ op_notIn_seq
theorem k_eqD (K : PySem.W.Frag) (hu : X.A.units + 64 < cLine) (h : X.K = K := by rfl) : OpR X (compareOp .Eq) (rEqD K) := h ▸ op_eqD hu
theorem k_index (K : PySem.W.Frag) (h : X.K = K := by rfl) : MtR X "list.index" (rIndex K) := h ▸ mt_index
theorem k_pil (K : PySem.W.Frag) (hl : PE X e te) (h : X.K = K := by rfl) : PI X tg e (iList K te) := h ▸ pi_list hl
theorem k_pit (K : PySem.W.Frag) (hl : PE X e te) (h : X.K = K := by rfl) : PI X tg e (iTup K te) := h ▸ pi_tup hl
theorem k_zipA (K : PySem.W.Frag) {elts : List Expr} {kk : Nat} {tpos : Pos} (hg : Gl X "zip") (hm : X.mg "zip" = none) (ha : PA X [e, e2] tas)
    (hs : starEach [e, e2] X.env = (false, eval e X.env) :: starEach [e2] X.env := by rfl) (hpl : (backTo pos (starEach [e2] X.env)).any (·.1) = false := by rfl) (h : X.K = K := by rfl) :
    PI X (.Tuple elts kk tpos) (.Call (.Name "zip" p) [e, e2] [] pos) (iZipA K tas) := h ▸ pi_zipA hg hm ha hs hpl
theorem k_zipM (K : PySem.W.Frag) {elts : List Expr} {kk : Nat} {tpos : Pos} (hg : Gl X "zip") (hm : X.mg "zip" = none) (ha : PA X [e, e2] tas)
    (hs : starEach [e, e2] X.env = (false, eval e X.env) :: starEach [e2] X.env := by rfl) (hpl : (backTo pos (starEach [e2] X.env)).any (·.1) = false := by rfl) (h : X.K = K := by rfl) :
    PI X (.Tuple elts kk tpos) (.Call (.Name "zip" p) [e, e2] [] pos) (iZipM K tas) := h ▸ pi_zipM hg hm ha hs hpl
theorem k_revL (K : PySem.W.Frag) {k : Nat} (he : PE X e te) (h : X.K = K := by rfl) : PE X (.Subscript e (.Slice none none (some (.UnaryOp .USub (.Constant (.int 1) k p1) p2)) p3) pos) (tRevL K te) := h ▸ pe_revL he
/-- a method of a list, with arguments -/
theorem k_bm (K : PySem.W.Frag) {es : List Expr} {t : TA} {name : Str} {T id : String} {r : V → List V → Hp → VK → Prop} (pa : PlainAttrs T) (slot : Slot T name id) (hty : typeOf (.builtin id) = pure (.type "method_descriptor")) (hm : MtR X id r) (ho : PE X o to) (ha : PA X (e :: es) t)
    (hbase : attributeBase o name X.env (eval o X.env) = eval o X.env := by rfl)
    (hfew : ((backTo cpos (starEach (e :: es) X.env)).all (fun x => !x.1) && (backToKw cpos (keywordEach [] X.env)).all (fun x => x.1.isSome) && decide ((e :: es).length + ([] : List Keyword).length + (if ([] : List Keyword).isEmpty then 0 else 1) < 30)) = true := by rfl)
    (hline : (apos.endLine == cpos.line) = true := by rfl) (hs : starEach (e :: es) X.env = (false, eval e X.env) :: starEach es X.env := by rfl) (hplain : (backTo cpos (starEach es X.env)).any (·.1) = false := by rfl) (h : X.K = K := by rfl) :
    PE X (.Call (.Attribute o name apos) (e :: es) [] cpos) (tBM K T r to t) := h ▸ pe_bm pa slot hty hm ho ha hbase hfew hline hs hplain
theorem k_pgt (K : PySem.W.Frag) {es : List Expr} {k : Nat} {t : TGs} {n : Nat} (hc : X.calm = true) (h : PGs X es t)
    (hn : (assignEach es X.env).length = n := by rfl) (hst : (assignEach es X.env).findIdx? (·.1) = none := by rfl) (h1 : X.K = K := by rfl) : PG X (.Tuple es k pos) (gTup K n t) := h1 ▸ pg_tup hc h hn hst
/-! nested dicts -/
theorem k_dgetN (P : Program) (w : World) (K : PySem.W.Frag) (hr : Room k0 X.A) (ho : PE X o td) (hi : PE X i ty) (hs : NoSl i) (h1 : X.prog = P := by rfl) (h2 : X.w = w := by rfl) (h3 : X.K = K := by rfl) : PE X (.Subscript o i pos) (tDGetN P w K td ty) := by
  subst h1 h2 h3; exact pe_dgetN hr ho hi hs
theorem k_dnotinN (P : Program) (w : World) (K : PySem.W.Frag) (hr : Room k0 X.A) (hi : PE X i ty) (ho : PE X o td) (h1 : X.prog = P := by rfl) (h2 : X.w = w := by rfl) (h3 : X.K = K := by rfl) : PC X .NotIn i o (tDNotInN P w K ty td) := by
  subst h1 h2 h3; exact pc_dnotinN hr hi ho
theorem k_setN (P : Program) (w : World) (K : PySem.W.Frag) (hr : Room k0 X.A) (h1 : X.prog = P := by rfl) (h2 : X.w = w := by rfl) (h3 : X.K = K := by rfl) : PSet X (rSetN P w K) := by
  subst h1 h2 h3; exact set_N hr
theorem k_dsetdN (P : Program) (w : World) (K : PySem.W.Frag) (hr : Room k0 X.A) (ho : PE X o td) (he : PE X e ty) (hf : PE X f tx) (m : M2 X o "setdefault" apos e f cpos) (h1 : X.prog = P := by rfl) (h2 : X.w = w := by rfl) (h3 : X.K = K := by rfl) :
    PE X (.Call (.Attribute o "setdefault" apos) [e, f] [] cpos) (tDSetdN P w K td ty tx) := by
  subst h1 h2 h3; exact pe_dsetdN hr ho he hf m
theorem k_dnewN (P : Program) (w : World) (K : PySem.W.Frag) (h1 : X.prog = P := by rfl) (h2 : X.w = w := by rfl) (h3 : X.K = K := by rfl) : PE X (.Dict [] [] pos) (tDNewN P w K) := by
  subst h1 h2 h3; exact pe_dnewN
theorem k_lenN (P : Program) (w : World) (K : PySem.W.Frag) (h1 : X.prog = P := by rfl) (h2 : X.w = w := by rfl) (h3 : X.K = K := by rfl) : CallR X (.builtin "len") (rLenN P w K) := by
  subst h1 h2 h3; exact cb_lenN
theorem k_dictN (P : Program) (w : World) (K : PySem.W.Frag) (hr : Room k0 X.A) (hc : X.calm = true := by rfl) (h1 : X.prog = P := by rfl) (h2 : X.w = w := by rfl) (h3 : X.K = K := by rfl) : CallR X (.type "dict") (rDictN P w K) := by
  subst h1 h2 h3; exact cb_dictN hc hr
theorem k_dispN (P : Program) (w : World) (K : PySem.W.Frag) {k v : Expr} {tk tv : TE} (hr : Room k0 X.A) (hk : PE X k tk) (hv : PE X v tv) (h1 : X.prog = P := by rfl) (h2 : X.w = w := by rfl) (h3 : X.K = K := by rfl) : PE X (.Dict [some k] [v] pos) (tDispN P w K tk tv) := by
  subst h1 h2 h3; exact pe_dispN hr hk hv
/-- dict(list of pairs), keys whole numbers -/
def rDictK (K : PySem.W.Frag) : List V → Hp → VK → Prop := fun xs H Q => ∃ (a : Addr) (ps : List Addr) (kvs : List (Key × V)), xs = [.ref a] ∧ SqL K H a (ps.map V.ref) ∧ Paired (fun p kv => SqT K H p [kV kv.1, kv.2]) ps kvs ∧ ∀ p, H p = none → Q (.ref p) (upd H p (.dK (mergeK [] kvs)))
theorem k_dictK (K : PySem.W.Frag) (hc : X.calm = true := by rfl) (h : X.K = K := by rfl) : CallR X (.type "dict") (rDictK K) := h ▸ call_dictP hc
end
theorem bool_true {q : Prop} [Decidable q] (h : q) : PyData.bool (decide q) = .bool true := by rw [decide_eq_true h]
theorem bool_false {q : Prop} [Decidable q] (h : ¬ q) : PyData.bool (decide q) = .bool false := by rw [decide_eq_false h]
end K63
/-! K63Kinds: the defs that look at kinds, at a reader; want. -/
namespace K63
open PySem PySem.Spec PyProof.Rows L2 RZ
theorem spD_len {K : PySem.W.Frag} {pre : List PyData → PyData → Prop} {n : Nat} (h : ∀ ds r, pre ds r → ds.length = n) {vs : List V} {H : Hp} {Q : VK} {E : XK} (s : spD K pre vs H Q E) : vs.length = n := by
  obtain ⟨ds, r, h1, h2, _⟩ := s
  rw [h1.len]; exact h ds r h2
theorem RetD.go {K : PySem.W.Frag} {d : PyData} {H H1 : Hp} {Q : VK} (k : RetD K d H Q) (e : Same H H1) {v : V} {H2 : Hp} (e2 : Same H1 H2) (h : Di K H2 v d) : Q v H2 := k v H2 (e.trans e2) h
/-! what each asks and gives -/
def pInt (ds : List PyData) (r : PyData) : Prop := ∃ i : Int, ds = [.int i] ∧ r = .bool true
def pNum (ds : List PyData) (r : PyData) : Prop := ∃ n : Nat, ds = [nI n] ∧ r = .bool true
def pIdx (ds : List PyData) (r : PyData) : Prop := ∃ n m : Nat, ds = [nI n, nI m] ∧ n < m ∧ r = .bool true
def pFull (ds : List PyData) (r : PyData) : Prop := ∃ es : List PyData, ds = [.tuple es] ∧ 0 < es.length ∧ r = .bool true
def pTupOf (ds : List PyData) (r : PyData) : Prop := ∃ (es : List PyData), ds = [.tuple es, nI es.length] ∧ r = .bool true
def pIdxs (ds : List PyData) (r : PyData) : Prop := ∃ (ns : List Nat) (m : Nat), ds = [tI ns, nI m] ∧ ns.length ≤ 40000 ∧ (∀ x ∈ ns, x < m) ∧ r = .bool true
def pBase (ds : List PyData) (r : PyData) : Prop := ∃ b : Nat, ds = [nI b] ∧ 2 ≤ b ∧ r = .bool true
/-- small enough for every list on the way -/
structure Small (R : Rd) : Prop where
  b : R.b ≤ 4
  n : R.mv.length ≤ 60
  s : ∀ x ∈ R.sh, x < 1000
def pRd (ds : List PyData) (r : PyData) : Prop := ∃ R : Rd, ds = [tR R] ∧ R.Zero ∧ Small R ∧ r = .bool true
def pWant (ds : List PyData) (r : PyData) : Prop := ∃ a b : PyData, ds = [.bool true, a, b] ∧ r = .none
def pWantRd (ds : List PyData) (r : PyData) : Prop := ∃ (R : Rd) (a : PyData), ds = [tR R, a] ∧ R.Zero ∧ Small R ∧ r = .none
section
variable {P : Program} {w : World} {K : PySem.W.Frag} {mg : Str → Option Value} {base : Heap}
abbrev s_is_integer : Stmt := topS 1
theorem sc_is_integer : FnScope ["thing"] ["thing"] (defScope s_is_integer) := ⟨rfl, rfl, rfl, by decide +kernel, rfl, by decide +kernel, by decide +kernel⟩
-- 0 thing
theorem ok_is_integer (B : Bn mg) {f : Addr} {fd : FuncData} (F : Fun K "is_integer" "is_integer" s_is_integer f fd) : FnOk P w K mg base CX0 1 f fd ["thing"] (spD K pInt) := by
  refine F.ok sc_is_integer (fun vs H Q E h => spD_len (n := 1) (fun ds r p => by obtain ⟨i, rfl, _⟩ := p; rfl) h) (fun cdv A outer s H vs Q E hr h => ?_)
  obtain ⟨ds, r, hd, ⟨i, rfl, rfl⟩, k⟩ := h
  obtain ⟨v, rfl, hv⟩ := hd.inv1
  refine ⟨_, (pss_one (ps_ret (pe_and (pe_callB (k_isi K) (by rfl) B.isi boot_isinstance (pa_cons (pv 0) (pa_cons (pe_bltn (v := .ty "int") (by rfl) B.int boot_int rfl) pa_nil))) (pe_one (pe_not (pe_callB (k_isi K) (by rfl) B.isi boot_isinstance (pa_cons (pv 0) (pa_cons (pe_bltn (v := .ty "bool") (by rfl) B.bool boot_bool rfl) pa_nil)))))))), ?_⟩
  exact q_ret (K := K) ((ed_and1 (ed_isi (ed_var rfl hv) ty_int (by decide +kernel)) ((ed_notV (ed_isi (ed_var rfl hv) ty_int (b := false) (by decide +kernel))).is rfl))) fun v H1 e1 hv => k v H1 e1 hv
abbrev s_is_number : Stmt := topS 2
theorem sc_is_number : FnScope ["thing"] ["thing"] (defScope s_is_number) := ⟨rfl, rfl, rfl, by decide +kernel, rfl, by decide +kernel, by decide +kernel⟩
-- 0 thing
theorem ok_is_number (B : Bn mg) (c_is_integer : Cal P w K mg base "is_integer" 1 ["thing"] [] (spD K pInt)) {f : Addr} {fd : FuncData} (F : Fun K "is_number" "is_number" s_is_number f fd) : FnOk P w K mg base CX0 2 f fd ["thing"] (spD K pNum) := by
  refine F.ok sc_is_number (fun vs H Q E h => spD_len (n := 1) (fun ds r p => by obtain ⟨i, rfl, _⟩ := p; rfl) h) (fun cdv A outer s H vs Q E hr h => ?_)
  obtain ⟨ds, r, hd, ⟨n, rfl, rfl⟩, k⟩ := h
  obtain ⟨v, rfl, hv⟩ := hd.inv1
  refine ⟨_, (pss_one (ps_ret (pe_and (pe_callC c_is_integer (hr.mono (by decide)) (by rfl) (pa_cons (pv 0) pa_nil)) (pe_one (pe_cmpR op_ge (pv 0) pe_int (nomark _)))))), ?_⟩
  exact q_ret (K := K) (ed_and1 (ed_call0 (ea_one (ed_var rfl hv)) ⟨_, rfl, rfl⟩) ((ed_B0 (ed_var rfl hv) ed_int).is (bool_true (by omega)))) fun v H1 e1 hv => k v H1 e1 hv
abbrev s_is_index : Stmt := topS 3
theorem sc_is_index : FnScope ["thing", "many"] ["thing", "many"] (defScope s_is_index) := ⟨rfl, rfl, rfl, by decide +kernel, rfl, by decide +kernel, by decide +kernel⟩
-- 0 thing, 1 many
theorem ok_is_index (B : Bn mg) (c_is_number : Cal P w K mg base "is_number" 2 ["thing"] [] (spD K pNum)) {f : Addr} {fd : FuncData} (F : Fun K "is_index" "is_index" s_is_index f fd) : FnOk P w K mg base CX0 3 f fd ["thing", "many"] (spD K pIdx) := by
  refine F.ok sc_is_index (fun vs H Q E h => spD_len (n := 2) (fun ds r p => by obtain ⟨i, m, rfl, _⟩ := p; rfl) h) (fun cdv A outer s H vs Q E hr h => ?_)
  obtain ⟨ds, r, hd, ⟨n, m, rfl, hnm, rfl⟩, k⟩ := h
  obtain ⟨v, u, rfl, hv, hu⟩ := hd.inv2
  refine ⟨_, (pss_one (ps_ret (pe_and (pe_callC c_is_number (hr.mono (by decide)) (by rfl) (pa_cons (pv 0) pa_nil)) (pe_one (pe_cmpR op_lt (pv 0) (pv 1) (nomark _)))))), ?_⟩
  exact q_ret (K := K) (ed_and1 (ed_call0 (ea_one (ed_var rfl hv)) ⟨_, rfl, rfl⟩) ((ed_ltN (ed_var rfl hv) (ed_var rfl hu)).is (bool_true hnm))) fun v H1 e1 hv => k v H1 e1 hv
abbrev s_is_full_tuple : Stmt := topS 4
theorem sc_is_full_tuple : FnScope ["thing"] ["thing"] (defScope s_is_full_tuple) := ⟨rfl, rfl, rfl, by decide +kernel, rfl, by decide +kernel, by decide +kernel⟩
-- 0 thing
theorem ok_is_full_tuple (B : Bn mg) {f : Addr} {fd : FuncData} (F : Fun K "is_full_tuple" "is_full_tuple" s_is_full_tuple f fd) : FnOk P w K mg base CX0 1 f fd ["thing"] (spD K pFull) := by
  refine F.ok sc_is_full_tuple (fun vs H Q E h => spD_len (n := 1) (fun ds r p => by obtain ⟨i, rfl, _⟩ := p; rfl) h) (fun cdv A outer s H vs Q E hr h => ?_)
  obtain ⟨ds, r, hd, ⟨es, rfl, hes, rfl⟩, k⟩ := h
  obtain ⟨v, rfl, hv⟩ := hd.inv1
  refine ⟨_, (pss_one (ps_ret (pe_and (pe_callB (k_isi K) (by rfl) B.isi boot_isinstance (pa_cons (pv 0) (pa_cons (pe_bltn (v := .ty "tuple") (by rfl) B.tuple boot_tuple rfl) pa_nil))) (pe_one (pe_cmpR op_gt (pe_callB (k_len K) (by rfl) B.len PySem.boot_len (pa_cons (pv 0) pa_nil)) pe_int (nomark _)))))), ?_⟩
  exact q_ret (K := K) (ed_and1 (ed_isi (ed_var rfl hv) ty_tup (by decide +kernel)) ((ed_gtN (b := 0) (ed_lenT (ed_var rfl hv)) ed_int).is (bool_true hes))) fun v H1 e1 hv => k v H1 e1 hv
abbrev s_is_tuple_of : Stmt := topS 5
theorem sc_is_tuple_of : FnScope ["thing", "many"] ["thing", "many"] (defScope s_is_tuple_of) := ⟨rfl, rfl, rfl, by decide +kernel, rfl, by decide +kernel, by decide +kernel⟩
-- 0 thing, 1 many
theorem ok_is_tuple_of (B : Bn mg) {f : Addr} {fd : FuncData} (F : Fun K "is_tuple_of" "is_tuple_of" s_is_tuple_of f fd) : FnOk P w K mg base CX0 1 f fd ["thing", "many"] (spD K pTupOf) := by
  refine F.ok sc_is_tuple_of (fun vs H Q E h => spD_len (n := 2) (fun ds r p => by obtain ⟨i, rfl, _⟩ := p; rfl) h) (fun cdv A outer s H vs Q E hr h => ?_)
  obtain ⟨ds, r, hd, ⟨es, rfl, rfl⟩, k⟩ := h
  obtain ⟨v, u, rfl, hv, hu⟩ := hd.inv2
  refine ⟨_, (pss_one (ps_ret (pe_and (pe_callB (k_isi K) (by rfl) B.isi boot_isinstance (pa_cons (pv 0) (pa_cons (pe_bltn (v := .ty "tuple") (by rfl) B.tuple boot_tuple rfl) pa_nil))) (pe_one (pe_cmpR op_eq (pe_callB (k_len K) (by rfl) B.len PySem.boot_len (pa_cons (pv 0) pa_nil)) (pv 1) (nomark _)))))), ?_⟩
  exact q_ret (K := K) (ed_and1 (ed_isi (ed_var rfl hv) ty_tup (by decide +kernel)) ((ed_eqN (ed_lenT (ed_var rfl hv)) (ed_var rfl hu)).is (bool_true rfl))) fun v H1 e1 hv => k v H1 e1 hv
theorem all_true (l : List Nat) : (l.map fun _ => true).all id = true := by simp
abbrev s_are_indexes : Stmt := topS 6
theorem sc_are_indexes : FnScope ["thing", "many", "one"] ["thing", "many"] (defScope s_are_indexes) := ⟨rfl, rfl, rfl, by decide +kernel, rfl, by decide +kernel, by decide +kernel⟩
-- 0 thing, 1 many, 2 one
theorem ok_are_indexes (B : Bn mg) (c_is_index : Cal P w K mg base "is_index" 3 ["thing", "many"] [] (spD K pIdx)) {f : Addr} {fd : FuncData} (F : Fun K "are_indexes" "are_indexes" s_are_indexes f fd) : FnOk P w K mg base CX0 4 f fd ["thing", "many"] (spD K pIdxs) := by
  refine F.ok sc_are_indexes (fun vs H Q E h => spD_len (n := 2) (fun ds r p => by obtain ⟨i, m, rfl, _⟩ := p; rfl) h) (fun cdv A outer s H vs Q E hr h => ?_)
  obtain ⟨ds, r, hd, ⟨ns, m, rfl, hz, hns, rfl⟩, k⟩ := h
  obtain ⟨v, u, rfl, hv, hu⟩ := hd.inv2
  refine ⟨_, (pss_one (ps_ret (pe_and (pe_callB (k_isi K) (by rfl) B.isi boot_isinstance (pa_cons (pv 0) (pa_cons (pe_bltn (v := .ty "tuple") (by rfl) B.tuple boot_tuple rfl) pa_nil))) (pe_one (pe_callB (k_all K) (by rfl) B.all boot_all (pa_cons (pe_lc (own := [("one", 2)]) rfl sc_are_indexes.nd (k_pit K (pv 0)) (blkOk_by (by kernel_rfl)) (fun _ _ _ _ _ => (pg_name (i := 2) sc_are_indexes.nd rfl (Or.inl rfl))) (fun _ _ _ _ _ => pts_nil) (fun _ _ _ _ _ => (pe_callC c_is_index (hr.mono (by decide)) (by rfl) (pa_cons (pv 2) (pa_cons (pv 1) pa_nil))))) pa_nil)))))), ?_⟩
  refine q_ret (K := K) (ed_and1 (ed_isi (ed_var rfl hv) ty_tup (by decide +kernel)) ((ed_all (bs := ns.map fun _ => true) (el_comp (src_tup (ed_var rfl hv)) (by simp) (by simpa using hz) (fun _ => rfl) fun i d r x H1 hd hr e1 hx => ?_)).is (by rw [all_true]))) fun v H1 e1 hv => k v H1 e1 hv
  rw [List.getElem?_map] at hd
  cases e : ns[i]? with
  | none => rw [e] at hd; cases hd
  | some y =>
    rw [e] at hd
    obtain rfl : nI y = d := Option.some.inj hd
    have er : r = .bool true := by
      simp [e] at hr
      exact hr.symm
    subst er
    exact ed_call0 (ea_cons (ed_var rfl hx) (ea_one (ed_var rfl (hu.to e1)))) ⟨y, m, rfl, hns y (List.mem_of_getElem? e), rfl⟩
abbrev s_is_base : Stmt := topS 7
theorem sc_is_base : FnScope ["thing"] ["thing"] (defScope s_is_base) := ⟨rfl, rfl, rfl, by decide +kernel, rfl, by decide +kernel, by decide +kernel⟩
-- 0 thing
theorem ok_is_base (B : Bn mg) (c_is_integer : Cal P w K mg base "is_integer" 1 ["thing"] [] (spD K pInt)) {f : Addr} {fd : FuncData} (F : Fun K "is_base" "is_base" s_is_base f fd) : FnOk P w K mg base CX0 2 f fd ["thing"] (spD K pBase) := by
  refine F.ok sc_is_base (fun vs H Q E h => spD_len (n := 1) (fun ds r p => by obtain ⟨i, rfl, _⟩ := p; rfl) h) (fun cdv A outer s H vs Q E hr h => ?_)
  obtain ⟨ds, r, hd, ⟨n, rfl, hn, rfl⟩, k⟩ := h
  obtain ⟨v, rfl, hv⟩ := hd.inv1
  refine ⟨_, (pss_one (ps_ret (pe_and (pe_callC c_is_integer (hr.mono (by decide)) (by rfl) (pa_cons (pv 0) pa_nil)) (pe_one (pe_cmpR op_ge (pv 0) pe_int (nomark _)))))), ?_⟩
  exact q_ret (K := K) (ed_and1 (ed_call0 (ea_one (ed_var rfl hv)) ⟨_, rfl, rfl⟩) ((ed_B0 (ed_var rfl hv) ed_int).is (bool_true (by omega)))) fun v H1 e1 hv => k v H1 e1 hv
abbrev s_is_reader : Stmt := topS 8
theorem sc_is_reader : FnScope ["thing", "base", "moves", "shows", "one"] ["thing"] (defScope s_is_reader) := ⟨rfl, rfl, rfl, by decide +kernel, rfl, by decide +kernel, by decide +kernel⟩
-- 0 thing, 1 base, 2 moves, 3 shows, 4 one
theorem ok_is_reader (B : Bn mg) (c_is_number : Cal P w K mg base "is_number" 2 ["thing"] [] (spD K pNum)) (c_is_full_tuple : Cal P w K mg base "is_full_tuple" 1 ["thing"] [] (spD K pFull))
    (c_is_tuple_of : Cal P w K mg base "is_tuple_of" 1 ["thing", "many"] [] (spD K pTupOf)) (c_are_indexes : Cal P w K mg base "are_indexes" 4 ["thing", "many"] [] (spD K pIdxs)) (c_is_base : Cal P w K mg base "is_base" 2 ["thing"] [] (spD K pBase))
    {f : Addr} {fd : FuncData} (F : Fun K "is_reader" "is_reader" s_is_reader f fd) : FnOk P w K mg base CX0 5 f fd ["thing"] (spD K pRd) := by
  refine F.ok sc_is_reader (fun vs H Q E h => spD_len (n := 1) (fun ds r p => by obtain ⟨i, rfl, _⟩ := p; rfl) h) (fun cdv A outer s H vs Q E hr h => ?_)
  obtain ⟨ds, r, hd, ⟨R, rfl, ok, sm, rfl⟩, k⟩ := h
  obtain ⟨v, rfl, hv⟩ := hd.inv1
  have hpos := ok.pos
  refine ⟨_, (pss_cons (ps_if (PW.pt (pw_or (pt_not (pt_val (pe_callC c_is_tuple_of (hr.mono (by decide)) (by rfl) (pa_cons (pv 0) (pa_cons pe_int pa_nil))))) (pw_or (pt_not (pt_val (pe_callC c_is_base (hr.mono (by decide)) (by rfl) (pa_cons (pe_ix (k_ixT K) (pv 0) pe_int (fun _ _ => rfl)) pa_nil)))) (pw_or1 (pt_not (pt_val (pe_callC c_is_full_tuple (hr.mono (by decide)) (by rfl) (pa_cons (pe_ix (k_ixT K) (pv 0) pe_int (fun _ _ => rfl)) pa_nil)))))))) (pss_one (ps_ret pe_bl)) pss_nil)
      (pss_cons (ps_asg (pv 0) (k_pgt K rfl (pgs_cons (pg_name (i := 1) sc_is_reader.nd rfl (Or.inr rfl)) (pgs_cons (pg_name (i := 2) sc_is_reader.nd rfl (Or.inr rfl)) (pgs_cons (pg_name (i := 3) sc_is_reader.nd rfl (Or.inl rfl)) pgs_nil)))))
      (pss_cons (ps_if (pt_not (pt_val (pe_callB (k_all K) (by rfl) B.all boot_all (pa_cons (pe_lc (own := [("one", 4)]) rfl sc_is_reader.nd (k_pit K (pv 2)) (blkOk_by (by kernel_rfl)) (fun _ _ _ _ _ => (pg_name (i := 4) sc_is_reader.nd rfl (Or.inl rfl))) (fun _ _ _ _ _ => pts_nil) (fun _ _ _ _ _ => (pe_and (pe_callC c_is_tuple_of (hr.mono (by decide)) (by rfl) (pa_cons (pv 4) (pa_cons (pv 1) pa_nil))) (pe_one (pe_callC c_are_indexes (hr.mono (by decide)) (by rfl) (pa_cons (pv 4) (pa_cons (pe_callB (k_len K) (by rfl) B.len PySem.boot_len (pa_cons (pv 2) pa_nil)) pa_nil))))))) pa_nil)))) (pss_one (ps_ret pe_bl)) pss_nil)
      (pss_one (ps_ret (pe_and (pe_cmpR op_eq (pe_ix (k_ixT K) (pe_ix (k_ixT K) (pv 2) pe_int (fun _ _ => rfl)) pe_int (fun _ _ => rfl)) pe_int (nomark _)) (pe_and (pe_callC c_is_tuple_of (hr.mono (by decide)) (by rfl) (pa_cons (pv 3) (pa_cons (pe_callB (k_len K) (by rfl) B.len PySem.boot_len (pa_cons (pv 2) pa_nil)) pa_nil))) (pe_one (pe_callB (k_all K) (by rfl) B.all boot_all (pa_cons (pe_lc (own := [("one", 4)]) rfl sc_is_reader.nd (k_pit K (pv 3)) (blkOk_by (by kernel_rfl)) (fun _ _ _ _ _ => (pg_name (i := 4) sc_is_reader.nd rfl (Or.inl rfl))) (fun _ _ _ _ _ => pts_nil) (fun _ _ _ _ _ => (pe_callC c_is_number (hr.mono (by decide)) (by rfl) (pa_cons (pv 4) pa_nil)))) pa_nil)))))))))), ?_⟩
  refine q_skip (et_or (a := false) (b := false) (et_not (b := true) (et_B (ed_call0 (ea_cons (ed_var rfl hv) (ea_one ed_int)) ⟨_, rfl, rfl⟩)))
    (fun _ => et_or (a := false) (b := false) (et_not (b := true) (et_B (ed_call0 (ea_one (ed_ixT (k := 0) (ed_var rfl hv) ed_int rfl)) ⟨R.b, rfl, ok.base, rfl⟩)))
      (fun _ => et_not (b := true) (et_B (ed_call0 (ea_one (ed_ixT (k := 1) (ed_var rfl hv) ed_int rfl)) ⟨_, rfl, by rw [List.length_map]; exact hpos, rfl⟩))))) fun H1 e1 => ?_
  refine q_un3 (K := K) (ed_var rfl (hv.to e1)) fun v1 v2 v3 H2 e2 h1 h2 h3 => ?_
  have e12 := e1.trans e2
  refine q_skip (et_not (b := true) (et_B ((ed_all (bs := R.mv.map fun _ => true) (el_comp (src_tup (ed_var rfl h2)) (by simp) (by rw [List.length_map]; have := sm.n; omega) (fun _ => rfl) fun i d r x H3 hd hr e3 hx => ?_)).is (by simp)))) fun H3 e3 => ?_
  · rw [List.getElem?_map] at hd
    cases e : R.mv[i]? with
    | none => rw [e] at hd; cases hd
    | some y =>
      rw [e] at hd
      obtain rfl : tI y = d := Option.some.inj hd
      have er : r = .bool true := by
        simp [e] at hr
        exact hr.symm
      subst er
      have hy := List.mem_of_getElem? e
      have hb := ok.wide y hy
      refine ed_and1 (ed_call0 (ea_cons (ed_var rfl hx) (ea_one (ed_var rfl (h1.to e3)))) ⟨y.map nI, by rw [List.length_map, hb]; rfl, rfl⟩) ?_
      exact ed_call0 (ea_cons (ed_var rfl hx) (ea_one (ed_lenII (ed_var rfl (h2.to e3))))) ⟨y, R.mv.length, rfl, by have := sm.b; omega, ok.inn y hy, rfl⟩
  · obtain ⟨r0, hr0⟩ := get_of_lt hpos
    have hz := ok.zero
    have hrow : R.row 0 = r0 := getD_some hr0
    rw [hrow] at hz
    refine q_ret (K := K) (ed_and1 ((ed_eqN (a := 0) (b := 0) (ed_ixI (k := 0) (ed_ixII (k := 0) (ed_var rfl (h2.to e3)) ed_int hr0) ed_int hz) ed_int).is rfl)
      (ed_and1 (ed_call0 (ea_cons (ed_var rfl (h3.to e3)) (ea_one (ed_lenII (ed_var rfl (h2.to e3))))) ⟨R.sh.map nI, by rw [List.length_map, ok.shl]; rfl, rfl⟩)
        ((ed_all (bs := R.sh.map fun _ => true) (el_comp (src_tup (ed_var rfl (h3.to e3))) (by simp) (by rw [List.length_map, ok.shl]; have := sm.n; omega) (fun _ => rfl) fun i d r x H4 hd hr e4 hx => ?_)).is (by simp)))) fun v H4 e4 hv => k v H4 ((e12.trans e3).trans e4) hv
    rw [List.getElem?_map] at hd
    cases e : R.sh[i]? with
    | none => rw [e] at hd; cases hd
    | some y =>
      rw [e] at hd
      obtain rfl : nI y = d := Option.some.inj hd
      have er : r = .bool true := by
        simp [e] at hr
        exact hr.symm
      subst er
      exact ed_call0 (ea_one (ed_var rfl hx)) ⟨y, rfl, rfl⟩
abbrev s_want : Stmt := topS 14
theorem sc_want : FnScope ["holds", "word", "at"] ["holds", "word", "at"] (defScope s_want) := ⟨rfl, rfl, rfl, by decide +kernel, rfl, by decide +kernel, by decide +kernel⟩
-- 0 holds, 1 word, 2 at
theorem ok_want (B : Bn mg) {f : Addr} {fd : FuncData} {dvs : List V} {kws : List (Str × V)} (F : FunD K "want" "want" (defArgs s_want) (defBody s_want) (defScope s_want) dvs kws f fd) : FnOk P w K mg base CX0 1 f fd ["holds", "word", "at"] (spD K pWant) := by
  refine F.ok sc_want (fun vs H Q E h => spD_len (n := 3) (fun ds r p => by obtain ⟨a, b, rfl, _⟩ := p; rfl) h) (fun cdv A outer s H vs Q E hr h => ?_)
  obtain ⟨ds, r, hd, ⟨a, b, rfl, rfl⟩, k⟩ := h
  obtain ⟨v, u, x, rfl, hv, hu, hx⟩ := hd.inv3
  refine ⟨_, (pss_one (ps_if (pt_not (pt_val (pv 0))) (pss_one ps_never) pss_nil)), ?_⟩
  exact s_if (et_not (b := true) (et_B (ed_var rfl hv))) (fun z => nomatch z) fun _ H1 e1 => k .non H1 e1 .non
abbrev s_want_reader : Stmt := topS 15
theorem sc_want_reader : FnScope ["thing", "name"] ["thing", "name"] (defScope s_want_reader) := ⟨rfl, rfl, rfl, by decide +kernel, rfl, by decide +kernel, by decide +kernel⟩
-- 0 thing, 1 name
theorem ok_want_reader (B : Bn mg) (c_want : Cal P w K mg base "want" 1 ["holds", "word", "at"] [.int (-1)] (spD K pWant)) (c_is_reader : Cal P w K mg base "is_reader" 5 ["thing"] [] (spD K pRd))
    {f : Addr} {fd : FuncData} {dvs : List V} {kws : List (Str × V)} (F : FunD K "want_reader" "want_reader" (defArgs s_want_reader) (defBody s_want_reader) (defScope s_want_reader) dvs kws f fd) : FnOk P w K mg base CX0 6 f fd ["thing", "name"] (spD K pWantRd) := by
  refine F.ok sc_want_reader (fun vs H Q E h => spD_len (n := 2) (fun ds r p => by obtain ⟨a, b, rfl, _⟩ := p; rfl) h) (fun cdv A outer s H vs Q E hr h => ?_)
  obtain ⟨ds, r, hd, ⟨R, a, rfl, ok, sm, rfl⟩, k⟩ := h
  obtain ⟨v, u, rfl, hv, hu⟩ := hd.inv2
  refine ⟨_, (pss_one (ps_expr (pe_callC c_want (hr.mono (by decide)) (by rfl) (pa_cons (pe_callC c_is_reader (hr.mono (by decide)) (by rfl) (pa_cons (pv 0) pa_nil)) (pa_cons (pv 1) pa_nil))))), ?_⟩
  exact ed_call (K := K) (dds := [.int (-1)]) (ea_cons (ed_call0 (ea_one (ed_var rfl hv)) ⟨R, rfl, ok, sm, rfl⟩) (ea_one (ed_var rfl hu))) (fun _ => .one (.int _)) ⟨_, _, rfl, rfl⟩ H (Same.refl H) _ fun v H1 e1 hv => k .non H1 e1 .non
end
end K63
/-! K63Lay8: loops, appends, promises that give lists. -/
namespace K63
open PySem PySem.Spec PyProof.Rows L2 RZ
section
variable {K : PySem.W.Frag} {σ : L2.St} {H H' : Hp} {ta tb tc te tl : TE} {tt tu : TT} {tas : TA} {d d' : PyData} {ds es : List PyData} {v : V} {p l : Addr} {D : Ends} {t u tz : TS} {i j m : Nat}
theorem s_while {c : TT} (W : Nat → L2.St → Hp → Prop) (m0 : Nat) (h0 : W m0 σ H)
    (hs : ∀ m σ' H', W m σ' H' → ∃ b, EvT c σ' H' b ∧ (b = true → ∀ H1, Same H' H1 → t { D with nx := fun σ2 H2 => ∃ m', m' < m ∧ W m' σ2 H2, ct := fun σ2 H2 => ∃ m', m' < m ∧ W m' σ2 H2, bk := D.nx } σ' H1) ∧ (b = false → ∀ H1, Same H' H1 → D.nx σ' H1)) : tWhile c t D σ H := by
  refine ⟨W, ⟨m0, h0⟩, fun m σ' H' w => ?_⟩
  obtain ⟨b, hb, h1, h2⟩ := hs m σ' H' w
  refine hb H' (Same.refl _) _ fun H1 e1 => ?_
  cases b with
  | true => exact ⟨_, fun _ _ q => q, h1 rfl H1 e1⟩
  | false => exact h2 rfl H1 e1
theorem q_while {c : TT} (W : Nat → L2.St → Hp → Prop) (m0 : Nat) (h0 : W m0 σ H)
    (hs : ∀ m σ' H', W m σ' H' → ∃ b, EvT c σ' H' b ∧ (b = true → ∀ H1, Same H' H1 → t { D with nx := fun σ2 H2 => ∃ m', m' < m ∧ W m' σ2 H2, ct := fun σ2 H2 => ∃ m', m' < m ∧ W m' σ2 H2, bk := tz D } σ' H1) ∧ (b = false → ∀ H1, Same H' H1 → tz D σ' H1)) : tSeq (tWhile c t) tz D σ H :=
  s_while (D := { D with nx := tz D }) W m0 h0 hs
theorem s_rng (h : EvDs K tas σ H [nI m]) (hm : m < 100000) (Pv : Nat → L2.St → Hp → Prop) (h0 : ∀ H1, Same H H1 → Pv 0 σ H1)
    (hs : ∀ i σ' H', i < m → Pv i σ' H' → t { D with nx := Pv (i + 1), ct := Pv (i + 1), bk := D.nx } (σ'.set j (some (vN i))) H') (hd : ∀ σ' H', Pv m σ' H' → D.nx σ' H') : tFor (iRng1 tas) (gName j) t D σ H := h H (Same.refl _) _ fun vs H1 e1 hv => by
  obtain ⟨v, rfl, hv'⟩ := hv.inv1
  refine ⟨(m : Int), by rw [hv'.inv_int], by omega, by omega, ?_⟩
  refine for_range (lo := 0) (n := ((m : Int)).toNat) Pv (h0 H1 e1) (fun i σ' H' hi p => ?_) fun σ' H' p => hd σ' H' p
  have := hs i σ' H' hi p
  rw [show vN i = V.int (0 + (i : Int)) by rw [Int.zero_add]] at this
  exact this
theorem q_rng (h : EvDs K tas σ H [nI m]) (hm : m < 100000) (Pv : Nat → L2.St → Hp → Prop) (h0 : ∀ H1, Same H H1 → Pv 0 σ H1)
    (hs : ∀ i σ' H', i < m → Pv i σ' H' → t { D with nx := Pv (i + 1), ct := Pv (i + 1), bk := tz D } (σ'.set j (some (vN i))) H') (hd : ∀ σ' H', Pv m σ' H' → tz D σ' H') : tSeq (tFor (iRng1 tas) (gName j) t) tz D σ H :=
  s_rng (D := { D with nx := tz D }) h hm Pv h0 hs hd
theorem s_forT (h : EvD K tl σ H (.tuple ds)) (Pv : Hp → Nat → L2.St → Hp → Prop) (h0 : ∀ H1, Same H H1 → Pv H1 0 σ H1) (ht : ∀ H1 i σ' H', Pv H1 i σ' H' → Tx H1 H')
    (hs : ∀ H1, Same H H1 → ∀ (i : Nat) (d : PyData) (v : V) (σ' : L2.St) (H' : Hp), ds[i]? = some d → Di K H' v d → Pv H1 i σ' H' → t { D with nx := Pv H1 (i + 1), ct := Pv H1 (i + 1), bk := D.nx } (σ'.set j (some v)) H')
    (hd : ∀ H1, Same H H1 → ∀ σ' H', Pv H1 ds.length σ' H' → D.nx σ' H') : tFor (iTup K tl) (gName j) t D σ H := h H (Same.refl _) _ fun v H1 e1 hv => by
  obtain ⟨a, xs, rfl, h1, h2⟩ := hv.inv_tup
  refine ⟨a, rfl, ⟨xs, h1⟩, for_tup (K := K) (a := a) (xs := xs) (Pv H1) (h0 H1 e1) (fun i σ' H' _ p => (ht H1 i σ' H' p).sq h1) (fun i x σ' H' hx p => ?_) fun σ' H' p => hd H1 e1 σ' H' (by rw [← h2.len]; exact p)⟩
  obtain ⟨d, hd', r⟩ := h2.at hx
  exact hs H1 e1 i d x σ' H' hd' (r.tx (ht H1 i σ' H' p)) p
theorem q_forT (h : EvD K tl σ H (.tuple ds)) (Pv : Hp → Nat → L2.St → Hp → Prop) (h0 : ∀ H1, Same H H1 → Pv H1 0 σ H1) (ht : ∀ H1 i σ' H', Pv H1 i σ' H' → Tx H1 H')
    (hs : ∀ H1, Same H H1 → ∀ (i : Nat) (d : PyData) (v : V) (σ' : L2.St) (H' : Hp), ds[i]? = some d → Di K H' v d → Pv H1 i σ' H' → t { D with nx := Pv H1 (i + 1), ct := Pv H1 (i + 1), bk := tz D } (σ'.set j (some v)) H')
    (hd : ∀ H1, Same H H1 → ∀ σ' H', Pv H1 ds.length σ' H' → tz D σ' H') : tSeq (tFor (iTup K tl) (gName j) t) tz D σ H := s_forT (D := { D with nx := tz D }) h Pv h0 ht hs hd
/-- a for over a new list -/
theorem s_forN (h : EvL K tl σ H ds) (Pv : Hp → Nat → L2.St → Hp → Prop) (h0 : ∀ H1, Same H H1 → Pv H1 0 σ H1) (ht : ∀ H1 i σ' H', Pv H1 i σ' H' → Same H1 H')
    (hs : ∀ H1, Same H H1 → ∀ (i : Nat) (d : PyData) (v : V) (σ' : L2.St) (H' : Hp), ds[i]? = some d → Di K H' v d → Pv H1 i σ' H' → t { D with nx := Pv H1 (i + 1), ct := Pv H1 (i + 1), bk := D.nx } (σ'.set j (some v)) H')
    (hd : ∀ H1, Same H H1 → ∀ σ' H', Pv H1 ds.length σ' H' → D.nx σ' H') : tFor (iList K tl) (gName j) t D σ H := h H (Same.refl _) _ fun p xs H1 hp e1 h1 h2 => by
  refine ⟨p, rfl, ⟨xs, .of h1⟩, for_list (K := K) (a := p) (xs := xs) (Pv H1) (h0 H1 e1) (fun i σ' H' _ q => .of (ht H1 i σ' H' q _ _ h1)) (fun i x σ' H' hx q => ?_) fun σ' H' q => hd H1 e1 σ' H' (by rw [← h2.len]; exact q)⟩
  obtain ⟨d, hd', r⟩ := h2.at hx
  exact hs H1 e1 i d x σ' H' hd' (r.to (ht H1 i σ' H' q)) q
theorem q_forN (h : EvL K tl σ H ds) (Pv : Hp → Nat → L2.St → Hp → Prop) (h0 : ∀ H1, Same H H1 → Pv H1 0 σ H1) (ht : ∀ H1 i σ' H', Pv H1 i σ' H' → Same H1 H')
    (hs : ∀ H1, Same H H1 → ∀ (i : Nat) (d : PyData) (v : V) (σ' : L2.St) (H' : Hp), ds[i]? = some d → Di K H' v d → Pv H1 i σ' H' → t { D with nx := Pv H1 (i + 1), ct := Pv H1 (i + 1), bk := tz D } (σ'.set j (some v)) H')
    (hd : ∀ H1, Same H H1 → ∀ σ' H', Pv H1 ds.length σ' H' → tz D σ' H') : tSeq (tFor (iList K tl) (gName j) t) tz D σ H := s_forN (D := { D with nx := tz D }) h Pv h0 ht hs hd
/-- l.append(d) -/
theorem s_app (hl : Ls K H l ds) (ha : EvV ta σ H (.ref l)) (h : EvD K te σ H d) (hz : ds.length < 100000) (k : ∀ H1 o, Same H H1 → NoTup H1 l → Ls K (upd H1 l o) l (ds ++ [d]) → D.nx σ (upd H1 l o)) :
    tDrop (tBM K "list" rAppend ta (tCons te tNil)) D σ H := ha H (Same.refl _) _ fun H1 e1 => by
  obtain ⟨xs, h1, h2⟩ := hl.to e1
  refine ⟨Or.inl ⟨rfl, xs, .of h1⟩, h H1 e1 _ fun v H2 e2 hv => ⟨l, xs, v, rfl, rfl, e2 _ _ h1, Evl.sz_lt (by rw [h2.len]; exact hz), ?_⟩⟩
  have nt : NoTup H2 l := .lst (e2 _ _ h1)
  exact k H2 _ (e1.trans e2) nt ⟨_, upd_same, ((h2.to e2).snoc hv).tx (.upd nt)⟩
theorem q_app (hl : Ls K H l ds) (ha : EvV ta σ H (.ref l)) (h : EvD K te σ H d) (hz : ds.length < 100000) (k : ∀ H1 o, Same H H1 → NoTup H1 l → Ls K (upd H1 l o) l (ds ++ [d]) → tz D σ (upd H1 l o)) :
    tSeq (tDrop (tBM K "list" rAppend ta (tCons te tNil))) tz D σ H := s_app (D := { D with nx := tz D }) hl ha h hz k
/-- l.append(a new list) -/
theorem s_appLL {dss : List (List PyData)} (hl : LLs K H l dss) (ha : EvV ta σ H (.ref l)) (h : EvL K te σ H ds) (hz : dss.length < 100000) (k : ∀ H1 o, Same H H1 → NoTup H1 l → LLs K (upd H1 l o) l (dss ++ [ds]) → D.nx σ (upd H1 l o)) :
    tDrop (tBM K "list" rAppend ta (tCons te tNil)) D σ H := ha H (Same.refl _) _ fun H1 e1 => by
  have hl1 := hl.to e1
  obtain ⟨xs, h1, hlen, _⟩ := id hl1
  refine ⟨Or.inl ⟨rfl, xs, .of h1⟩, h H1 e1 _ fun q us H2 hq e2 h2 hd => ⟨l, xs, .ref q, rfl, rfl, e2 _ _ h1, Evl.sz_lt (by rw [hlen]; exact hz), ?_⟩⟩
  exact k H2 _ (e1.trans e2) (.lst (e2 _ _ h1)) ((hl1.to e2).snoc (e2 _ _ h1) ⟨us, h2, hd⟩ fun z => by rw [z, h1] at hq; cases hq)
theorem s_D (h : EvD K te σ H d) (k : ∀ v H1, Same H H1 → Di K H1 v d → D.nx (σ.set i (some v)) H1) : tAsg te (gName i) D σ H := h H (Same.refl H) _ fun v H1 e1 hv => k v H1 e1 hv
theorem s_N {n : Nat} (h : EvD K te σ H (nI n)) (k : ∀ H1, Same H H1 → D.nx (σ.set i (some (vN n))) H1) : tAsg te (gName i) D σ H := h H (Same.refl H) _ fun v H1 e1 hv => by rw [hv.inv_int]; exact k H1 e1
theorem q_N {n : Nat} (h : EvD K te σ H (nI n)) (k : ∀ H1, Same H H1 → tz D (σ.set i (some (vN n))) H1) : tSeq (tAsg te (gName i)) tz D σ H := s_N (D := { D with nx := tz D }) h k
theorem s_L (h : EvL K te σ H ds) (k : ∀ p vs H1, H p = none → Same H H1 → H1 p = some (.lst vs) → DiAll K H1 vs ds → D.nx (σ.set i (some (.ref p))) H1) : tAsg te (gName i) D σ H := h H (Same.refl H) _ fun p vs H1 hp e1 h1 hv => k p vs H1 hp e1 h1 hv
theorem q_LL {dss : List (List PyData)} (h : EvLL K te σ H dss) (k : ∀ p H1, H p = none → Same H H1 → LLs K H1 p dss → tz D (σ.set i (some (.ref p))) H1) : tSeq (tAsg te (gName i)) tz D σ H := h H (Same.refl H) _ fun p H1 hp e1 h1 => k p H1 hp e1 h1
theorem ed_modN {a b : Nat} (ha : EvD K ta σ H (nI a)) (hb : EvD K tb σ H (nI b)) (h0 : 0 < b) : EvD K (tOp (rI (fun _ j => 0 < j) fun i j => .int (i % j)) ta tb) σ H (nI (a % b)) :=
  (ed_I ha hb (by show (0 : Int) < (b : Int); omega)).is (by show PyData.int _ = PyData.int _; rw [Int.natCast_emod])
theorem ed_fdivN {a b : Nat} (ha : EvD K ta σ H (nI a)) (hb : EvD K tb σ H (nI b)) (h0 : 0 < b) (h1 : b < 1073741824) : EvD K (tOp (rI CDiv fun i j => .int (i / j)) ta tb) σ H (nI (a / b)) :=
  (ed_I ha hb ⟨by omega, by omega⟩).is (by show PyData.int _ = PyData.int _; rw [Int.natCast_ediv])
/-! promises that give a list -/
def spL (K : PySem.W.Frag) (pre : List PyData → List PyData → Prop) : Sp := fun vs H Q _ => ∃ ds rs, DiAll K H vs ds ∧ pre ds rs ∧ RetL K rs H Q
theorem el_call {pre : List PyData → List PyData → Prop} {E : XK} {rs : List PyData} (ha : EvDs K tas σ H ds) (hp : pre ds rs) : EvL K (tCall (spL K pre) [] E tas) σ H rs := fun H1 e Q q =>
  ha H1 e _ fun vs H2 e2 hv => ⟨ds, rs, by rw [List.append_nil]; exact hv, hp, fun p us H3 hp e3 h3 hd => q p us H3 (e2.free hp) (e2.trans e3) h3 hd⟩
theorem spL_len {pre : List PyData → List PyData → Prop} {n : Nat} (h : ∀ ds r, pre ds r → ds.length = n) {vs : List V} {H : Hp} {Q : VK} {E : XK} (s : spL K pre vs H Q E) : vs.length = n := by
  obtain ⟨ds, r, h1, h2, _⟩ := s
  rw [h1.len]; exact h ds r h2
theorem RetL.go {ds : List PyData} {H H1 : Hp} {Q : VK} (k : RetL K ds H Q) (e : Same H H1) {q : Addr} {vs : List V} {H2 : Hp} (hq : H1 q = none) (e2 : Same H1 H2) (h : H2 q = some (.lst vs)) (hd : DiAll K H2 vs ds) : Q (.ref q) H2 := k q vs H2 (e.free hq) (e.trans e2) h hd
/-- an int item, by place -/
theorem q_ret' (h : EvD K te σ H d) (k : RetD K d H D.rt) : tRet te D σ H := q_ret h fun v H1 e1 hv => k v H1 e1 hv
theorem q_retL' (h : EvL K te σ H ds) (k : RetL K ds H D.rt) : tRet te D σ H := q_retL h fun p vs H1 hp e1 h1 hv => k p vs H1 hp e1 h1 hv
end
end K63
/-! K63Lay9: dicts of numbers written to; lists of lists with one list kept out; comprehensions that change things. -/
namespace K63
open PySem PySem.Spec PyProof.Rows L2 RZ
theorem idx_app {α : Type} [DecidableEq α] {l m : List α} {x : α} : (l ++ m).idxOf x = if x ∈ l then l.idxOf x else l.length + m.idxOf x := by
  induction l with
  | nil => simp
  | cons a l ih =>
    by_cases e : a = x
    · subst e; simp
    · rw [List.cons_append, List.idxOf_cons, List.idxOf_cons, ih]
      have e' : (a == x) = false := beq_eq_false_iff_ne.mpr e
      rw [e']
      have : x ∈ a :: l ↔ x ∈ l := by simp [Ne.symm (show a ≠ x from e)]
      by_cases h : x ∈ l
      · simp [h]
      · rw [if_neg h, if_neg (fun z => h (this.mp z))]; simp; omega
theorem room_u {k : Nat} {A : Around} (r : Room k A) : A.units + 1 < cLine := by have := r.un; omega
section
variable {K : PySem.W.Frag} {σ : L2.St} {H H' : Hp} {ta tb tc td te tl ty : TE} {d : PyData} {ds : List PyData} {v : V} {p l : Addr} {D : Ends} {tz : TS} {i j m n : Nat} {vs : List Nat}
theorem ed_lenLL {dss : List (List PyData)} (ha : EvV ta σ H (.ref p)) (hp : LLs K H p dss) : EvD K (tCB (rLen K) (tCons ta tNil)) σ H (nI dss.length) := fun H1 e Q q =>
  ha H1 e _ fun H2 e2 => by
    obtain ⟨xs, h1, h2, _⟩ := hp.to (e.trans e2)
    refine ⟨p, xs, rfl, .inl (.of h1), q _ H2 e2 ?_⟩
    rw [h2]; exact .int _
/-- d[k] = n -/
theorem s_dput {kvs : List (Key × V)} {k : Int} {z : Nat} (hv : EvD K te σ H (nI z)) (ho : EvV td σ H (.ref p)) (hi : EvD K ty σ H (.int k)) (hp : H p = some (.dK kvs)) (hz : kvs.length < 100000)
    (h : ∀ H1, Same H H1 → D.nx σ (upd H1 p (.dK (putK kvs (.inl k) (vN z))))) : sDPut td ty te D σ H := hv H (Same.refl _) _ fun v H1 e1 hv => ho H1 e1 _ fun H2 e2 => hi H2 (e1.trans e2) _ fun y H3 e3 hy => by
  rw [hy.inv_int, hv.inv_int]
  have e := (e1.trans e2).trans e3
  exact ⟨p, _, rfl, DPut.k (k := .inl k) (e _ _ hp) (Evl.sz_lt hz), h H3 e⟩
theorem q_dput {kvs : List (Key × V)} {k : Int} {z : Nat} (hv : EvD K te σ H (nI z)) (ho : EvV td σ H (.ref p)) (hi : EvD K ty σ H (.int k)) (hp : H p = some (.dK kvs)) (hz : kvs.length < 100000)
    (h : ∀ H1, Same H H1 → tz D σ (upd H1 p (.dK (putK kvs (.inl k) (vN z))))) : tSeq (sDPut td ty te) tz D σ H := s_dput (D := { D with nx := tz D }) hv ho hi hp hz h
/-- l.append(a new list), the objects shown -/
theorem s_appLX {dss : List (List PyData)} {xs : List V} (hl : LLs K H l dss) (hx : H l = some (.lst xs)) (ha : EvV ta σ H (.ref l)) (h : EvL K te σ H ds) (hz : dss.length < 100000)
    (k : ∀ H1 q, H q = none → Same H H1 → LLs K (upd H1 l (.lst (xs ++ [.ref q]))) l (dss ++ [ds]) → D.nx σ (upd H1 l (.lst (xs ++ [.ref q])))) :
    tDrop (tBM K "list" rAppend ta (tCons te tNil)) D σ H := ha H (Same.refl _) _ fun H1 e1 => by
  obtain ⟨ys, h1, hlen, _⟩ := id hl
  rw [hx] at h1; cases h1
  refine ⟨Or.inl ⟨rfl, xs, .of (e1 _ _ hx)⟩, h H1 e1 _ fun q us H2 hq e2 h2 hd => ⟨l, xs, .ref q, rfl, rfl, (e1.trans e2) _ _ hx, Evl.sz_lt (by rw [hlen]; exact hz), ?_⟩⟩
  exact k H2 q (e1.free hq) (e1.trans e2) ((hl.to (e1.trans e2)).snoc ((e1.trans e2) _ _ hx) ⟨us, h2, hd⟩ fun z => by rw [z, e1 _ _ hx] at hq; cases hq)
/-- another list changes -/
theorem LLs.other {dss : List (List PyData)} {xs : List V} {a : Addr} {o : HO} (h : LLs K H p dss) (hx : H p = some (.lst xs)) (hn : NoTup H a) (hp : a ≠ p) (ha : V.ref a ∉ xs) : LLs K (upd H a o) p dss := by
  obtain ⟨vs, h1, h2, h3⟩ := h
  rw [hx] at h1; cases h1
  refine ⟨xs, by rw [upd_ne (Ne.symm hp)]; exact hx, h2, fun i ds hd => ?_⟩
  obtain ⟨q, a', b, us, c1, c2⟩ := h3 i ds hd
  have hq : q ≠ a := fun e => ha (by rw [← e]; exact List.mem_of_getElem? a')
  exact ⟨q, a', b, us, by rw [upd_ne hq]; exact c1, c2.tx (.upd hn)⟩
theorem Ls.other {a : Addr} {o : HO} (h : Ls K H p ds) (hn : NoTup H a) (hp : a ≠ p) : Ls K (upd H a o) p ds := by
  obtain ⟨vs, h1, h2⟩ := h
  exact ⟨vs, by rw [upd_ne (Ne.symm hp)]; exact h1, h2.tx (.upd hn)⟩
theorem Ls.noTup (h : Ls K H p ds) : NoTup H p := let ⟨_, h1, _⟩ := h; .lst h1
/-- the spots of an order -/
def Spots (kvs : List (Key × V)) (o : List Nat) : Prop := kvs.length = o.length ∧ ∀ x : Nat, valV kvs (.inl (x : Int)) = if x ∈ o then some (vN (o.idxOf x)) else none
theorem spots_nil : Spots [] [] := ⟨rfl, fun x => by simp [valV]⟩
theorem spots_put {kvs : List (Key × V)} {o : List Nat} {x : Nat} (h : Spots kvs o) (hx : x ∉ o) : Spots (putK kvs (.inl (x : Int)) (vN o.length)) (o ++ [x]) := by
  have hn : valV kvs (.inl (x : Int)) = none := by rw [h.2 x, if_neg hx]
  refine ⟨by rw [putK_new _ hn]; simp [h.1], fun y => ?_⟩
  rw [valV_put]
  by_cases e : y = x
  · subst e
    rw [if_pos rfl, if_pos (by simp), idx_app, if_neg hx]
    simp
  · have e' : ¬ (Sum.inl (y : Int) : Key) = .inl (x : Int) := fun z => e (by injection z with z; exact Int.ofNat.inj z)
    rw [if_neg e', h.2 y]
    by_cases hy : y ∈ o
    · rw [if_pos hy, if_pos (by simp [hy]), idx_app, if_pos hy]
    · rw [if_neg hy, if_neg (by simp [hy, e])]
theorem idx_prefix {α : Type} [DecidableEq α] {l m : List α} (h : l <+: m) {x : α} (hx : x ∈ l) : m.idxOf x = l.idxOf x := by
  obtain ⟨t, rfl⟩ := h
  rw [idx_app, if_pos hx]
end
end K63
/-! K63Lay10: max and index of a list of numbers; pairs with a list. -/
namespace K63
open PySem PySem.Spec PyProof.Rows L2 RZ
section
variable {K : PySem.W.Frag} {σ : L2.St} {H H' : Hp} {ta tb tc td te tl ty : TE} {d : PyData} {ds es : List PyData} {v : V} {p l : Addr} {D : Ends} {tz : TS} {i j m n : Nat} {vs : List Nat}
theorem ints_cast (ns : List Nat) : ns.map vN = (ns.map fun n : Nat => (n : Int)).map V.int := by rw [List.map_map]; rfl
theorem ed_max {ns : List Nat} (ha : EvV ta σ H (.ref p)) (hp : Ls K H p (ns.map nI)) (hm : m ∈ ns) (hx : ∀ y ∈ ns, y ≤ m) : EvD K (tCB (rMax K) (tCons ta tNil)) σ H (nI m) := fun H1 e Q q => ha H1 e _ fun H2 e2 => by
  have h2 := (hp.to (e.trans e2)).ints
  rw [ints_cast] at h2
  refine ⟨p, _, rfl, .of h2, by rw [List.length_map]; exact List.length_pos_of_mem hm, fun k hk hall => ?_⟩
  obtain ⟨k', hk', rfl⟩ := List.mem_map.mp hk
  have h1 := hall m (List.mem_map_of_mem hm)
  have h3 := hx k' hk'
  have : k' = m := by omega
  subst this
  exact q _ H2 e2 (.int _)
theorem ed_index {ns : List Nat} (ha : EvV ta σ H (.ref p)) (hp : Ls K H p (ns.map nI)) (hb : EvD K tb σ H (nI n)) (hn : n ∈ ns) : EvD K (tBM K "list" (rIndex K) ta (tCons tb tNil)) σ H (nI (ns.idxOf n)) := fun H1 e Q q => ha H1 e _ fun H2 e2 => by
  have h2 := (hp.to (e.trans e2)).ints
  refine ⟨Or.inl ⟨rfl, _, .of h2⟩, hb H2 (e.trans e2) _ fun y H3 e3 hy => ?_⟩
  have h3 := e3 _ _ h2
  have hlt := List.idxOf_lt_length_of_mem hn
  have hz : ns[ns.idxOf n]? = some n := by rw [List.getElem?_eq_getElem hlt]; simp
  refine ⟨p, ns.map vN, vN n, ns.idxOf n, vN n, rfl, by rw [hy.inv_int], .of h3, rfl, ?_, by rw [List.getElem?_map, hz]; rfl, by simp [eqV], fun m z' hm hz' => ?_, q _ H3 (e2.trans e3) (.int _)⟩
  · rw [List.all_map]; exact List.all_eq_true.mpr fun _ _ => rfl
  · rw [List.getElem?_map] at hz'
    cases em : ns[m]? with
    | none => rw [em] at hz'; cases hz'
    | some x =>
      rw [em] at hz'
      obtain rfl : vN x = z' := Option.some.inj hz'
      have : x ≠ n := fun z => by
        subst z
        have h1 := List.idxOf_lt_length_of_mem hn
        have hml : m < ns.length := by omega
        have hx : ns[m] = x := by
          rw [List.getElem?_eq_getElem hml] at em; exact Option.some.inj em
        exact absurd (List.not_of_lt_findIdx (p := (· == x)) (xs := ns) (i := m) hm) (by simp [hx])
      show ((x : Int) == (n : Int)) = false
      exact beq_eq_false_iff_ne.mpr (by omega)
/-- a, b = [..], data -/
theorem q_un2LD (h : EvL K ta σ H ds) (hb : EvD K tb σ H d) (k : ∀ p vs v H1, H p = none → Same H H1 → H1 p = some (.lst vs) → DiAll K H1 vs ds → Di K H1 v d → tz D ((σ.set i (some (.ref p))).set j (some v)) H1) :
    tSeq (tAsg (tTup (tCons ta (tCons tb tNil))) (gTup K 2 (gCons (gName i) (gCons (gName j) gNil)))) tz D σ H := h H (Same.refl H) _ fun p vs H1 hp e1 h1 hv => hb H1 e1 _ fun v H2 e2 hv2 =>
  ⟨Evl.sz_of (by simp), fun t ht => ⟨t, _, rfl, .of upd_same, rfl, _, _, rfl, _, _, rfl, rfl, k p vs v _ hp ((e1.trans e2).trans (Same.new ht)) ((Same.new ht) _ _ (e2 _ _ h1)) ((hv.to e2).to (Same.new ht)) (hv2.to (Same.new ht))⟩⟩
theorem q_un2DL (hb : EvD K ta σ H d) (h : EvL K tb σ H ds) (k : ∀ p vs v H1, H p = none → Same H H1 → H1 p = some (.lst vs) → DiAll K H1 vs ds → Di K H1 v d → tz D ((σ.set i (some v)).set j (some (.ref p))) H1) :
    tSeq (tAsg (tTup (tCons ta (tCons tb tNil))) (gTup K 2 (gCons (gName i) (gCons (gName j) gNil)))) tz D σ H := hb H (Same.refl H) _ fun v H1 e1 hv => h H1 e1 _ fun p vs H2 hp e2 h2 hd =>
  ⟨Evl.sz_of (by simp), fun t ht => ⟨t, _, rfl, .of upd_same, rfl, _, _, rfl, _, _, rfl, rfl, k p vs v _ (e1.free hp) ((e1.trans e2).trans (Same.new ht)) ((Same.new ht) _ _ h2) (hd.to (Same.new ht)) ((hv.to e2).to (Same.new ht))⟩⟩
theorem q_un2LL (h : EvL K ta σ H ds) (hb : EvL K tb σ H es) (k : ∀ p q vs ws H1, H p = none → H q = none → p ≠ q → Same H H1 → H1 p = some (.lst vs) → DiAll K H1 vs ds → H1 q = some (.lst ws) → DiAll K H1 ws es → tz D ((σ.set i (some (.ref p))).set j (some (.ref q))) H1) :
    tSeq (tAsg (tTup (tCons ta (tCons tb tNil))) (gTup K 2 (gCons (gName i) (gCons (gName j) gNil)))) tz D σ H := h H (Same.refl H) _ fun p vs H1 hp e1 h1 hv => hb H1 e1 _ fun q ws H2 hq e2 h2 hw =>
  ⟨Evl.sz_of (by simp), fun t ht => ⟨t, _, rfl, .of upd_same, rfl, _, _, rfl, _, _, rfl, rfl, k p q vs ws _ hp (e1.free hq) (fun z => by rw [← z, h1] at hq; cases hq) ((e1.trans e2).trans (Same.new ht))
    ((Same.new ht) _ _ (e2 _ _ h1)) ((hv.to e2).to (Same.new ht)) ((Same.new ht) _ _ h2) (hw.to (Same.new ht))⟩⟩
theorem q_un2DD {d2 : PyData} (ha : EvD K ta σ H d) (hb : EvD K tb σ H d2) (k : ∀ v u H1, Same H H1 → Di K H1 v d → Di K H1 u d2 → tz D ((σ.set i (some v)).set j (some u)) H1) :
    tSeq (tAsg (tTup (tCons ta (tCons tb tNil))) (gTup K 2 (gCons (gName i) (gCons (gName j) gNil)))) tz D σ H := ha H (Same.refl H) _ fun v H1 e1 hv => hb H1 e1 _ fun u H2 e2 hu =>
  ⟨Evl.sz_of (by simp), fun t ht => ⟨t, _, rfl, .of upd_same, rfl, _, _, rfl, _, _, rfl, rfl, k v u _ ((e1.trans e2).trans (Same.new ht)) ((hv.to e2).to (Same.new ht)) (hu.to (Same.new ht))⟩⟩
end
end K63
/-! K63Math5: the search for the parting number, step by step. Plain Lean. -/
namespace K63
theorem find_at {α : Type} {P : α → Bool} : ∀ {l : List α} {k : Nat} {x : α}, l[k]? = some x → P x = true → (∀ i y, i < k → l[i]? = some y → P y = false) → l.find? P = some x
  | [], k, x, h, _, _ => by simp at h
  | a :: l, 0, x, h, hx, _ => by
    simp at h; subst h
    rw [List.find?_cons, hx]
  | a :: l, k + 1, x, h, hx, hb => by
    rw [List.find?_cons, hb 0 a (Nat.zero_lt_succ k) rfl]
    exact find_at (by simpa using h) hx fun i y hi hy => hb (i + 1) y (by omega) (by simpa using hy)
section
variable {R S : Rd} {k : Nat} {x : PIt}
def Alike (R S : Rd) (k : Nat) : Prop := ∀ i y, i < k → (pord R.mac S.mac R.b k)[i]? = some y → R.show y.1.1 = S.show y.1.2
theorem pord_pre {j k : Nat} (h : j ≤ k) : pord R.mac S.mac R.b j <+: pord R.mac S.mac R.b k := ordAt_prefix Prod.fst _ _ h
theorem part_found (hk : k ≤ R.mv.length * S.mv.length) (h : (pord R.mac S.mac R.b k)[k]? = some x) (hne : R.show x.1.1 ≠ S.show x.1.2) (hb : Alike R S k) : partRd R S = some x.2 := by
  unfold partRd
  rw [find_at (k := k) (x := x) (prefix_get (pord_pre hk) h) (decide_eq_true hne) fun i y hi hy => ?_]
  · rfl
  · have hlt := (List.getElem?_eq_some_iff.mp h).1
    have := hb i y hi (prefix_get_back (pord_pre hk) (by omega) hy)
    simp [this]
theorem part_end (hk : k ≤ R.mv.length * S.mv.length) (h : (pord R.mac S.mac R.b k).length ≤ k) (hb : Alike R S k) : partRd R S = none := by
  unfold partRd
  have e : pord R.mac S.mac R.b (R.mv.length * S.mv.length) = pord R.mac S.mac R.b k := ordAt_stuck Prod.fst _ _ h _ hk
  rw [e, List.find?_eq_none.mpr]
  · rfl
  · intro y hy
    obtain ⟨i, hi⟩ := List.getElem?_of_mem hy
    have hlt := (List.getElem?_eq_some_iff.mp hi).1
    have := hb i y (by omega) hi
    simp [this]
theorem pord_next (h : (pord R.mac S.mac R.b k)[k]? = some x) : pord R.mac S.mac R.b (k + 1) = expand Prod.fst (pord R.mac S.mac R.b k) (prow R.mac S.mac R.b x) := by
  unfold pord at h ⊢
  rw [ordAt_succ, h]
theorem alike_next (h : (pord R.mac S.mac R.b k)[k]? = some x) (hb : Alike R S k) (e : R.show x.1.1 = S.show x.1.2) : Alike R S (k + 1) := fun i y hi hy => by
  have hlt := (List.getElem?_eq_some_iff.mp h).1
  have h1 := prefix_get_back (pord_pre (Nat.le_succ k)) (by omega) hy
  by_cases q : i = k
  · subst q
    rw [h] at h1; cases h1; exact e
  · exact hb i y (by omega) h1
theorem prow_get {M N : Mac} {b i : Nat} (hi : i < b) : (prow M N b x)[i]? = some (((M.row x.1.1).getD i 0, (N.row x.1.2).getD i 0), x.2 * b + i) := by
  unfold prow
  rw [List.getElem?_map, List.getElem?_range hi]; rfl
theorem exp_in (h : R.Ok) (h' : S.Ok) (hb : R.b = S.b) (hx : x ∈ pord R.mac S.mac R.b k) (i : Nat) : ∀ y ∈ expand Prod.fst (pord R.mac S.mac R.b k) ((prow R.mac S.mac R.b x).take i), y.1.1 < R.mv.length ∧ y.1.2 < S.mv.length := fun y hy => by
  have hp := pord_in h h' hb k x hx
  rcases expand_sub Prod.fst hy with hy | hy
  · exact pord_in h h' hb k y hy
  · obtain ⟨d, hd, rfl⟩ := prow_mem (List.mem_of_mem_take hy)
    have l1 := h.row_len hp.1
    have l2 := h'.row_len hp.2
    exact ⟨h.row_lt hp.1 _ (getD_mem (by show d < (R.row _).length; omega)), h'.row_lt hp.2 _ (getD_mem (by show d < (S.row _).length; omega))⟩
theorem exp_short (h : R.Ok) (h' : S.Ok) (hb : R.b = S.b) (hx : x ∈ pord R.mac S.mac R.b k) (i : Nat) : (expand Prod.fst (pord R.mac S.mac R.b k) ((prow R.mac S.mac R.b x).take i)).length ≤ R.mv.length * S.mv.length := by
  have := length_le_of_nodup ((expand Prod.fst (pord R.mac S.mac R.b k) ((prow R.mac S.mac R.b x).take i)).map Prod.fst) (pairsOf R.mv.length S.mv.length) (expand_nodup _ (ordAt_nodup Prod.fst _ _ k)) fun y hy => by
    obtain ⟨z, hz, rfl⟩ := List.mem_map.mp hy
    exact mem_pairsOf.mpr (exp_in h h' hb hx i z hz)
  rwa [List.length_map, pairsOf_len] at this
theorem exp_step {b i : Nat} {M N : Mac} {o : List PIt} (hi : i < b) : expand Prod.fst o ((prow M N b x).take (i + 1)) = addNew Prod.fst (expand Prod.fst o ((prow M N b x).take i)) (((M.row x.1.1).getD i 0, (N.row x.1.2).getD i 0), x.2 * b + i) := by
  rw [List.take_add_one, prow_get hi, ← expand_snoc]; rfl
theorem exp_new {i : Nat} (hi : i < R.b) (h : ((R.row x.1.1).getD i 0, (S.row x.1.2).getD i 0) ∉ (expand Prod.fst (pord R.mac S.mac R.b k) ((prow R.mac S.mac R.b x).take i)).map Prod.fst) :
    expand Prod.fst (pord R.mac S.mac R.b k) ((prow R.mac S.mac R.b x).take (i + 1)) = expand Prod.fst (pord R.mac S.mac R.b k) ((prow R.mac S.mac R.b x).take i) ++ [(((R.row x.1.1).getD i 0, (S.row x.1.2).getD i 0), x.2 * R.b + i)] := by
  rw [exp_step hi]
  exact if_neg h
theorem exp_old {i : Nat} (hi : i < R.b) (h : ((R.row x.1.1).getD i 0, (S.row x.1.2).getD i 0) ∈ (expand Prod.fst (pord R.mac S.mac R.b k) ((prow R.mac S.mac R.b x).take i)).map Prod.fst) :
    expand Prod.fst (pord R.mac S.mac R.b k) ((prow R.mac S.mac R.b x).take (i + 1)) = expand Prod.fst (pord R.mac S.mac R.b k) ((prow R.mac S.mac R.b x).take i) := by
  rw [exp_step hi]
  exact if_pos h
end
end K63
/-! K63Lay11: dicts whose keys are pairs: asked, written; what was seen. -/
namespace K63
open PySem PySem.Spec PyProof.Rows L2 RZ
/-- a pair's data, a pair as a key -/
abbrev pD (x : Nat × Nat) : PyData := .tuple [nI x.1, nI x.2]
def pkey (x : Nat × Nat) : NK := .tup [.num (x.1 : Int), .num (x.2 : Int)]
theorem pkey_data (x : Nat × Nat) : (pkey x).data = pD x := rfl
theorem pkey_inj {x y : Nat × Nat} (h : pkey x = pkey y) : x = y := by
  unfold pkey at h
  injection h with h
  injection h with h1 h
  injection h with h2 _
  injection h1 with h1
  injection h2 with h2
  exact Prod.ext (Int.ofNat.inj h1) (Int.ofNat.inj h2)
def SeenP (kvs : List NE) (o : List PIt) : Prop := kvs.length = o.length ∧ ∀ p : Nat × Nat, (atN kvs (pkey p)).isSome = decide (p ∈ o.map Prod.fst)
theorem seen_put {kvs : List NE} {o : List PIt} {x : PIt} {b : Addr} {v : V} (h : SeenP kvs o) (hx : x.1 ∉ o.map Prod.fst) : SeenP (putN kvs (pkey x.1) b v) (o ++ [x]) := by
  have hn : atN kvs (pkey x.1) = none := by
    have := h.2 x.1
    rw [decide_eq_false hx] at this
    simpa using this
  refine ⟨by rw [putN_new _ _ hn]; simp [h.1], fun p => ?_⟩
  rw [atN_put]
  by_cases e : p = x.1
  · subst e; simp
  · rw [if_neg (fun z => e (pkey_inj z)), h.2 p]
    simp only [List.map_append, List.mem_append, List.map_cons, List.map_nil, List.mem_singleton, e, or_false]
theorem seen_one (b : Addr) (v : V) : SeenP [(pkey (0, 0), b, v)] [((0, 0), 0)] := ⟨rfl, fun p => by
  rw [atN_cons]
  by_cases e : p = (0, 0)
  · subst e; simp
  · rw [if_neg (fun z => e (pkey_inj z).symm)]; simp [atN, e]⟩
section
variable {P : Program} {w : World} {K : PySem.W.Frag} {σ : L2.St} {H H' : Hp} {ta tb tc td te tl ty : TE} {d : PyData} {ds es : List PyData} {v : V} {p l : Addr} {D : Ends} {tz : TS} {i j m n : Nat} {vs : List Nat}
theorem keyP {x : Nat × Nat} {b : Addr} (h : Di K H (.ref b) (pD x)) : KeyAt K H (pkey x) b := ⟨h, by show 1 ≤ 8; decide⟩
theorem ed_seen {x : Nat × Nat} {kvs : List NE} (hb : EvD K ty σ H (pD x)) (ha : EvV td σ H (.ref p)) (hp : ND P w K H p kvs) : EvD K (tDNotInN P w K ty td) σ H (.bool (!(atN kvs (pkey x)).isSome)) := fun H1 e Q q =>
  hb H1 e _ fun y H2 e2 hy => ha H2 (e.trans e2) _ fun H3 e3 => by
    obtain ⟨b, bs, rfl, _, _⟩ := id hy.inv_tup
    exact ⟨p, b, kvs, pkey x, rfl, rfl, hp.to ((e.trans e2).trans e3), keyP (hy.to e3), q _ H3 (e2.trans e3) (.bl _)⟩
/-- d[pair] = data -/
theorem q_setN {x : Nat × Nat} {kvs : List NE} (hv : EvD K te σ H d) (ho : EvV td σ H (.ref p)) (hi : EvD K ty σ H (pD x)) (hp : ND P w K H p kvs) (hz : kvs.length < 100000)
    (h : ∀ H1 o b u, Same H H1 → NoTup H1 p → ND P w K (upd H1 p o) p (putN kvs (pkey x) b u) → tz D σ (upd H1 p o)) : tSeq (tAsg te (gSub td ty (rSetN P w K))) tz D σ H :=
  hv H (Same.refl _) _ fun v H1 e1 hv1 => ho H1 e1 _ fun H2 e2 => hi H2 (e1.trans e2) _ fun y H3 e3 hy => by
    obtain ⟨b, bs, rfl, _, _⟩ := id hy.inv_tup
    have e := (e1.trans e2).trans e3
    exact ⟨p, b, kvs, pkey x, rfl, rfl, hp.to e, keyP hy, hz, fun o nd => h H3 o b v e (hp.to e).noTup nd⟩
/-- a new thing -/
def EvNew (te : TE) (σ : L2.St) (H : Hp) (Φ : Addr → Hp → Prop) : Prop := ∀ H1, Same H H1 → ∀ Q : VK, (∀ p H2, H1 p = none → Same H1 H2 → Φ p H2 → Q (.ref p) H2) → te σ H1 Q
theorem ed_dispP {x : Nat × Nat} {tk : TE} {y : V} (hk : EvD K tk σ H (pD x)) : EvNew (tDispN P w K tk (tC y)) σ H fun p H2 => ∃ b, ND P w K H2 p [(pkey x, b, y)] := fun H1 e Q q => fun p hp o0 nd0 => by
  have s0 : Same H1 (upd H1 p o0) := Same.new hp
  refine hk _ (e.trans s0) _ fun v H2 e2 hv => ?_
  obtain ⟨b, bs, rfl, _, _⟩ := id hv.inv_tup
  exact ⟨b, pkey x, rfl, nd0.to e2, keyP hv, fun o nd => q p _ hp (Same.mut (s0.trans e2) hp) ⟨b, nd⟩⟩
theorem q_par3 {x : Int} {Φ : Addr → Hp → Prop} (h : EvL K ta σ H ds) (hb : EvNew tb σ H Φ) (k : ∀ p vs q H1, H p = none → H q = none → p ≠ q → Same H H1 → H1 p = some (.lst vs) → DiAll K H1 vs ds → Φ q H1 → tz D (((σ.set i (some (.ref p))).set j (some (.ref q))).set l (some (.int x))) H1) :
    tSeq (tPar3 i j l (tCons ta (tCons tb (tCons (tC (.int x)) tNil)))) tz D σ H := h H (Same.refl H) _ fun p vs H1 hp e1 h1 hv => hb H1 e1 _ fun q H2 hq e2 hΦ =>
  ⟨_, _, _, rfl, k p vs q H2 hp (e1.free hq) (fun z => by rw [← z, h1] at hq; cases hq) (e1.trans e2) (e2 _ _ h1) (hv.to e2) hΦ⟩
end
end K63
/-! K63Lay12: comprehensions over two ranges; rows of pairs; max of a tuple. -/
namespace K63
open PySem PySem.Spec PyProof.Rows L2 RZ
section
variable {K : PySem.W.Frag} {σ : L2.St} {H H' : Hp} {ta tb tc td te tl ty : TE} {tas tas1 : TA} {d : PyData} {ds es : List PyData} {v : V} {p l : Addr} {D : Ends} {tz : TS} {i j m n k : Nat} {vs vs1 : List Nat} {wi : TI}
theorem flat_next {α : Type} (f : Nat → List α) (m : Nat) : (List.range (m + 1)).flatMap f = (List.range m).flatMap f ++ f m := by
  rw [List.range_succ, List.flatMap_append]; simp
theorem el_comp2R {f : Nat → Nat → PyData} (h1 : EvDs K tas σ H [nI m]) (hm : m < 100) (hn : n < 100)
    (hw : ∀ x, wipe ((wipe σ vs).set j (some x)) vs = wipe σ vs) (hw1 : ∀ x y, wipe ((wipe ((wipe σ vs).set j (some x)) vs1).set k (some y)) vs1 = wipe ((wipe σ vs).set j (some x)) vs1)
    (h2 : ∀ i, i < m → ∀ H1, Same H H1 → EvDs K tas1 ((wipe σ vs).set j (some (vN i))) H1 [nI n])
    (he : ∀ i l, i < m → l < n → ∀ H1, Same H H1 → EvD K te ((wipe ((wipe σ vs).set j (some (vN i))) vs1).set k (some (vN l))) H1 (f i l)) :
    EvL K (tLc2 (iRng1 tas) (gName j) tYes (iRng1 tas1) (gName k) tYes te vs vs1) σ H ((List.range m).flatMap fun i => (List.range n).map (f i)) := fun H1 e Q q => h1 H1 e _ fun ws H2 e2 hw2 => by
  obtain ⟨w, rfl, hwv⟩ := hw2.inv1
  have hlen : ∀ a, ((List.range a).flatMap fun i => (List.range n).map (f i)).length = a * n := fun a => by
    rw [List.length_flatMap]
    have : (List.range a).map (fun i => ((List.range n).map (f i)).length) = List.replicate a n := by
      rw [List.eq_replicate_iff]
      refine ⟨by simp, fun x hx => ?_⟩
      obtain ⟨i, _, rfl⟩ := List.mem_map.mp hx
      simp
    rw [this, List.sum_replicate_nat]
  refine ⟨(m : Int), by rw [hwv.inv_int], by omega, by omega, fun D hD => ?_⟩
  refine ⟨fun i c H' => c = m - i ∧ i ≤ m ∧ Same H2 H' ∧ ∃ acc, H' D = some (.lst acc) ∧ DiAll K H' acc ((List.range i).flatMap fun i => (List.range n).map (f i)), ⟨m, by omega, by omega, Same.new hD, [], upd_same, .nil⟩, ?_⟩
  rintro i c H3 ⟨rfl, hi, e3, acc, hacc, hda⟩
  by_cases hlt : i < m
  · refine .inr ⟨(show i < ((m : Int)).toNat by omega), fun H' => Same H2 H' ∧ ∃ acc, H' D = some (.lst acc) ∧ DiAll K H' acc ((List.range (i + 1)).flatMap fun i => (List.range n).map (f i)), fun H' h => ⟨m - (i + 1), by omega, rfl, hlt, h⟩, ?_⟩
    intro x H4 hy
    obtain ⟨rfl, rfl⟩ : H4 = H3 ∧ x = V.int (0 + (i : Int)) := hy
    rw [show V.int (0 + (i : Int)) = vN i by rw [Int.zero_add]]
    refine ⟨hw _, ?_⟩
    refine h2 i hlt H4 ((e.trans e2).trans e3) H4 (Same.refl _) _ fun ws5 H5 e5 hw5 => ?_
    obtain ⟨w5, rfl, hwv5⟩ := hw5.inv1
    refine ⟨(n : Int), by rw [hwv5.inv_int], by omega, by omega, ?_⟩
    refine ⟨fun a c H' => c = n - a ∧ a ≤ n ∧ Same H2 H' ∧ ∃ acc, H' D = some (.lst acc) ∧ DiAll K H' acc (((List.range i).flatMap fun i => (List.range n).map (f i)) ++ (List.range a).map (f i)), ⟨n, by omega, by omega, e3.trans e5, acc, e5 _ _ hacc, by simpa using hda.to e5⟩, ?_⟩
    rintro a c H6 ⟨rfl, ha, e6, acc6, hacc6, hda6⟩
    by_cases halt : a < n
    · refine .inr ⟨(show a < ((n : Int)).toNat by omega), fun H' => Same H2 H' ∧ ∃ acc, H' D = some (.lst acc) ∧ DiAll K H' acc (((List.range i).flatMap fun i => (List.range n).map (f i)) ++ (List.range (a + 1)).map (f i)), fun H' h => ⟨n - (a + 1), by omega, rfl, halt, h⟩, ?_⟩
      intro y H7 hy
      obtain ⟨rfl, rfl⟩ : H7 = H6 ∧ y = V.int (0 + (a : Int)) := hy
      rw [show V.int (0 + (a : Int)) = vN a by rw [Int.zero_add]]
      refine ⟨hw1 _ _, ?_⟩
      show te _ H7 _
      refine he i a hlt halt H7 ((e.trans e2).trans e6) H7 (Same.refl _) _ fun z H8 e8 hz => ?_
      refine ⟨acc6, e8 _ _ hacc6, ?_, Same.mut (e6.trans e8) hD, acc6 ++ [z], upd_same, ?_⟩
      · rw [hda6.len, List.length_append, hlen, List.length_map, List.length_range]
        refine Evl.sz_lt ?_
        have : i * n ≤ 100 * 100 := Nat.mul_le_mul (by omega) (by omega)
        omega
      · rw [List.range_succ, List.map_append, ← List.append_assoc]
        exact ((hda6.to e8).snoc hz).tx (.upd (.lst (e8 _ _ hacc6)))
    · have : a = n := by omega
      subst this
      refine .inl ⟨(show ((a : Int)).toNat ≤ a by omega), e6, acc6, hacc6, ?_⟩
      rw [flat_next]; exact hda6
  · have : i = m := by omega
    subst this
    exact .inl ⟨(show ((i : Int)).toNat ≤ i by omega), q D acc H3 (e2.free hD) (e2.trans e3) hacc hda⟩
/-- lists, over pairs -/
theorem ell_comp2 {dss : List (List PyData)} {ps : List (PyData × PyData)} (hs : Src K wi σ H (ps.map fun p => PyData.tuple [p.1, p.2])) (hl : dss.length = ps.length) (hz : ps.length ≤ 40000) (hw : ∀ x y, wipe (((wipe σ vs).set j (some x)).set k (some y)) vs = wipe σ vs)
    (he : ∀ (i : Nat) (d1 d2 : PyData) (r : List PyData) (x y : V) (H1 : Hp), ps[i]? = some (d1, d2) → dss[i]? = some r → Same H H1 → Di K H1 x d1 → Di K H1 y d2 → EvL K te (((wipe σ vs).set j (some x)).set k (some y)) H1 r) :
    EvLL K (tLc wi (gTup K 2 (gCons (gName j) (gCons (gName k) gNil))) tYes te vs) σ H dss :=
  ell_comp hs (by rw [hl, List.length_map]) (by rw [List.length_map]; exact hz) fun i r x H1 hr e1 hp R hR => by
    obtain ⟨d, hd, hx⟩ := hp
    rw [List.getElem?_map] at hd
    cases e : ps[i]? with
    | none => rw [e] at hd; simp at hd
    | some p =>
      rw [e] at hd
      obtain ⟨d1, d2⟩ := p
      obtain rfl : PyData.tuple [d1, d2] = d := Option.some.inj hd
      obtain ⟨a, xs, rfl, h1, h2⟩ := hx.inv_tup
      obtain ⟨u, w, rfl, h3, h4⟩ := h2.inv2
      exact ⟨a, _, rfl, h1, rfl, u, _, rfl, w, _, rfl, rfl, hR _ (hw u w) (he i d1 d2 r u w H1 e hr e1 h3 h4)⟩
theorem max_cast : ∀ (ns : List Nat) (n : Nat), (ns.map fun n : Nat => (n : Int)).foldl max (n : Int) = ((ns.foldl max n : Nat) : Int)
  | [], n => rfl
  | a :: ns, n => by
    rw [List.map_cons, List.foldl_cons, List.foldl_cons, ← max_cast ns (max n a)]
    congr 1; omega
theorem ed_maxT {ns : List Nat} (ha : EvD K ta σ H (tI ns)) (h0 : 0 < ns.length) : EvD K (tCB (rMaxT K) (tCons ta tNil)) σ H (nI (mxl ns)) := fun H1 e Q q => ha H1 e _ fun v H2 e2 hv => by
  obtain ⟨a, rfl, h1⟩ := hv.inv_I
  cases ns with
  | nil => simp at h0
  | cons n ns =>
    refine ⟨a, (n : Int), ns.map fun n : Nat => (n : Int), rfl, ?_, ?_⟩
    · rw [ints_cast] at h1; exact h1
    · rw [max_cast]
      have : mxl (n :: ns) = ns.foldl max n := by
        unfold mxl
        rw [List.foldl_cons]; congr 1
      rw [← this]
      exact q _ H2 e2 (.int _)
end
end K63
/-! K63Lay13: the feed (one list that changes), what else stays. -/
namespace K63
open PySem PySem.Spec PyProof.Rows L2 RZ
/-- all that is known besides p stays -/
def But (p : Addr) (H H' : Hp) : Prop := ∀ a o, a ≠ p → H a = some o → H' a = some o
section
variable {H H' H1 H2 : Hp} {p q a : Addr} {o : HO}
theorem But.refl (p : Addr) (H : Hp) : But p H H := fun _ _ _ h => h
theorem But.trans (x : But p H H1) (y : But p H1 H2) : But p H H2 := fun a o n h => y a o n (x a o n h)
theorem But.of (e : Same H H') : But p H H' := fun a o _ h => e a o h
theorem But.upd (p : Addr) (H : Hp) (o : HO) : But p H (L2.upd H p o) := fun a u n h => by rw [upd_ne n]; exact h
/-- what H did not know may change too -/
theorem But.mut (x : But p H H') (h : H q = none) : But p H (L2.upd H' q o) := fun a u n e => by rw [upd_ne (ne_of_none e h)]; exact x a u n e
theorem But.tx (x : But p H H') (h : NoTup H p) : Tx H H' := fun a xs r => by
  have ne : a ≠ p := fun e => h xs (e ▸ r)
  rcases r with r | ⟨u, r⟩
  · exact .inl (x _ _ ne r)
  · exact .inr ⟨u, x _ _ ne r⟩
/-- unknown things: unknown ahead, if the one known besides is another -/
theorem But.free (x : But p H H') (hp : H' p ≠ none) (h : H' q = none) : H q = none := by
  cases e : H q with
  | none => rfl
  | some o =>
    by_cases n : q = p
    · subst n; exact absurd h hp
    · rw [x q o n e] at h; cases h
end
structure Feed (H : Hp) (p c : Addr) (cs : List Int) (n : Nat) : Prop where
  cells : H c = some (.lst (cs.map V.int))
  own : ∃ (spot : Nat) (rest : Nat), H p = some (.lst [.ref c, vN spot, vN rest, vN n])
section
variable {K : PySem.W.Frag} {σ : L2.St} {H H' : Hp} {ta tb tc td te tl ty : TE} {d : PyData} {ds : List PyData} {v : V} {p c l : Addr} {D : Ends} {tz : TS} {i j k n : Nat} {vs : List Nat} {cs : List Int}
theorem Feed.ne (h : Feed H p c cs n) : c ≠ p := fun z => by
  obtain ⟨s, r, e⟩ := h.own
  have := h.cells
  rw [z, e] at this
  cases cs with
  | nil => simp at this
  | cons x xs => simp at this
theorem Feed.to (h : Feed H p c cs n) (e : Same H H') : Feed H' p c cs n := ⟨e _ _ h.cells, let ⟨s, r, x⟩ := h.own; ⟨s, r, e _ _ x⟩⟩
theorem Feed.noTup (h : Feed H p c cs n) : NoTup H p := let ⟨_, _, e⟩ := h.own; .lst e
theorem Feed.some (h : Feed H p c cs n) : H p ≠ none := fun z => by
  obtain ⟨_, _, e⟩ := h.own
  rw [e] at z; cases z
/-- another, unknown thing is laid or changes -/
theorem Feed.put {a : Addr} {o : HO} (h : Feed H p c cs n) (h1 : a ≠ p) (h2 : a ≠ c) : Feed (upd H a o) p c cs n := ⟨by rw [upd_ne (Ne.symm h2)]; exact h.cells, let ⟨s, r, x⟩ := h.own; ⟨s, r, by rw [upd_ne (Ne.symm h1)]; exact x⟩⟩
theorem Feed.new {a : Addr} {o : HO} (h : Feed H p c cs n) (h1 : H a = none) : Feed (upd H a o) p c cs n := h.to (Same.new h1)
/-- an item of a list, any value -/
theorem vv_ixL {xs : List V} (ha : EvV ta σ H (.ref p)) (hp : H p = some (.lst xs)) (hb : EvD K tb σ H (nI k)) (hv : xs[k]? = some v) : EvV (tOp (rIxL K) ta tb) σ H v := fun H1 e Q q =>
  ha H1 e _ fun H2 e2 => hb H2 (e.trans e2) _ fun y H3 e3 hy => by
    rw [hy.inv_int]
    exact ⟨p, xs, _, v, rfl, rfl, .of (((e.trans e2).trans e3) _ _ hp), atI_nat hv, q H3 (e2.trans e3)⟩
theorem ed_of {i : Int} (h : EvV te σ H (.int i)) : EvD K te σ H (.int i) := h.dat (.int i)
/-- l[k] = value -/
theorem q_set {xs : List V} (hv : EvV te σ H v) (ho : EvV td σ H (.ref p)) (hi : EvD K ty σ H (nI k)) (hp : H p = some (.lst xs)) (hk : k < xs.length)
    (h : ∀ H1, Same H H1 → tz D σ (upd H1 p (.lst (xs.set k v)))) : tSeq (tAsg te (gSub td ty rSetL)) tz D σ H := hv H (Same.refl _) _ fun H1 e1 => ho H1 e1 _ fun H2 e2 => hi H2 (e1.trans e2) _ fun y H3 e3 hy => by
  have e := (e1.trans e2).trans e3
  refine ⟨p, xs, (k : Int), k, rfl, hy.inv_int, e _ _ hp, ?_, h H3 e⟩
  unfold ixN
  rw [if_pos (by omega), if_pos (by omega)]
  simp
theorem ed_mod {a b : Int} (ha : EvD K ta σ H (.int a)) (hb : EvD K tb σ H (.int b)) (h0 : 0 < b) : EvD K (tOp (rI (fun _ j => 0 < j) fun i j => .int (i % j)) ta tb) σ H (.int (a % b)) := ed_I ha hb h0
theorem ed_pow {a : Int} {b : Nat} (ha : EvD K ta σ H (.int a)) (hb : EvD K tb σ H (nI b)) (h0 : b ≤ 100) (h1 : a.natAbs < 2 ^ 64) : EvD K (tOp (rI CPow fun i j => .int (i ^ j.toNat)) ta tb) σ H (.int (a ^ b)) :=
  (ed_I ha hb ⟨by omega, by omega, h1⟩).is (by show PyData.int _ = PyData.int _; simp)
theorem ed_fdivI {a : Int} {b : Nat} (ha : EvD K ta σ H (.int a)) (hb : EvD K tb σ H (nI b)) (h0 : 0 < b) (h1 : b < 1073741824) : EvD K (tOp (rI CDiv fun i j => .int (i / j)) ta tb) σ H (.int (a / (b : Int))) := ed_I ha hb ⟨by omega, by omega⟩
theorem ed_geI {a b : Int} (ha : EvD K ta σ H (.int a)) (hb : EvD K tb σ H (.int b)) : EvD K (tOp (rI0 fun i j => .bl (decide (j ≤ i))) ta tb) σ H (.bool (decide (b ≤ a))) := ed_B0 ha hb
theorem ed_mulI {a b : Int} (ha : EvD K ta σ H (.int a)) (hb : EvD K tb σ H (.int b)) (hc : CMul a b) : EvD K (tOp (rI CMul fun i j => .int (i * j)) ta tb) σ H (.int (a * b)) := ed_I ha hb hc
theorem ed_addI {a b : Int} (ha : EvD K ta σ H (.int a)) (hb : EvD K tb σ H (.int b)) : EvD K (tOp (rI0 fun i j => .int (i + j)) ta tb) σ H (.int (a + b)) := ed_I0 ha hb
theorem dp_ints {cs : List Int} : DpAll K H (cs.map V.int) (cs.map PyData.int) := by
  induction cs with
  | nil => exact .nil
  | cons x xs ih => exact .cons (.int x) ih
theorem lay_ints : ∀ cs : List Int, PyData.canLayAll0 (cs.map PyData.int) = true
  | [] => rfl
  | x :: xs => by show (true && _) = true; rw [lay_ints xs]; rfl
theorem deep_ints : ∀ cs : List Int, PyData.depthAll (cs.map PyData.int) = 0
  | [] => rfl
  | x :: xs => by
    show max (PyData.depth (.int x)) (PyData.depthAll (xs.map PyData.int)) = 0
    rw [deep_ints xs]; rfl
theorem shaped_ints (cs : List Int) : SeqAt.shaped (.list (cs.map PyData.int)) = true := by
  unfold SeqAt.shaped
  rw [show PyData.canLay0 (.list (cs.map PyData.int)) = PyData.canLayAll0 (cs.map PyData.int) from rfl, lay_ints]
  show (true && decide (PyData.depthAll (cs.map PyData.int) + 1 ≤ 64)) = true
  rw [deep_ints]; rfl
/-- a list of numbers == [] -/
theorem et_eqNil {cs : List Int} (ha : EvV ta σ H (.ref c)) (hc : H c = some (.lst (cs.map V.int))) : EvD K (tOp (rEqD K) ta (tLst tNil)) σ H (.bool (cs.isEmpty)) := fun H1 e Q q => ha H1 e _ fun H2 e2 =>
  ⟨Evl.sz_of (by simp), fun l hl => by
    have h2 := (e.trans e2) _ _ hc
    have s := Same.new (o := .lst []) hl
    refine ⟨.list (cs.map PyData.int), .list [], .lst (.of (s _ _ h2)) dp_ints, .lst (.of upd_same) .nil, shaped_ints cs, shaped_ints [], ?_⟩
    have : PyData.eqv (.list (cs.map PyData.int)) (.list []) = cs.isEmpty := by
      cases cs with
      | nil => rfl
      | cons x xs => rfl
    rw [this]
    exact q _ _ (e2.trans s) (.bl _)⟩
end
/-- a promise that draws from the feed: at most `most` draws; the result is told by Φ -/
def DrawEnd (p c : Addr) (cs : List Int) (n most : Nat) (H : Hp) (Q : VK) (Φ : V → Hp → Prop) : Prop := ∀ v H' m, But p H H' → n ≤ m → m ≤ n + most → Feed H' p c cs m → Φ v H' → Q v H'
end K63
/-! K63Work8: the law's feed and its draws. -/
namespace K63
open PySem PySem.Spec PyProof.Rows L2 RZ
def spFeed (K : PySem.W.Frag) : Sp := fun vs H Q _ => ∃ (a : Addr) (cs : List Int), vs = [.ref a] ∧ SqL K H a (cs.map V.int) ∧ ∀ p c cs' H', H p = none → Same H H' → Feed H' p c cs' 0 → Q (.ref p) H'
def spDraw : Sp := fun vs H Q _ => ∃ (p c : Addr) (cs : List Int) (n b : Nat), vs = [.ref p, vN b] ∧ Feed H p c cs n ∧ 0 < b ∧ b < 1000 ∧ n < 1000000 ∧ ∀ d H', d < b → But p H H' → Feed H' p c cs (n + 1) → Q (vN d) H'
theorem mod_nat (a : Int) {b : Nat} (h : 0 < b) : ∃ d : Nat, d < b ∧ a % (b : Int) = (d : Int) := by
  have h1 := Int.emod_nonneg a (show (b : Int) ≠ 0 by omega)
  have h2 := Int.emod_lt_of_pos a (show (0 : Int) < (b : Int) by omega)
  exact ⟨(a % (b : Int)).toNat, by omega, by omega⟩
theorem cut_ints (cs : List Int) (lo hi : Option Int) : ∃ cs' : List Int, cutV (cs.map V.int) lo hi = cs'.map V.int := by
  unfold cutV
  rw [← List.map_drop, ← List.map_take]
  exact ⟨_, rfl⟩
section
variable {P : Program} {w : World} {K : PySem.W.Frag} {mg : Str → Option Value} {base : Heap} {H H' : Hp} {σ : L2.St}
abbrev s_law_feed : Stmt := topS 31
theorem sc_law_feed : FnScope ["_law_script"] ["_law_script"] (defScope s_law_feed) := ⟨rfl, rfl, rfl, by decide +kernel, rfl, by decide +kernel, by decide +kernel⟩
-- 0 _law_script
theorem ok_law_feed (B : Bn mg) {f : Addr} {fd : FuncData} (F : Fun K "_law_feed" "_law_feed" s_law_feed f fd) : FnOk P w K mg base CX0 1 f fd ["_law_script"] (spFeed K) := by
  refine F.ok sc_law_feed (fun vs H Q E h => by obtain ⟨a, cs, rfl, _⟩ := h; rfl) (fun cdv A outer s H vs Q E hr h => ?_)
  obtain ⟨a, cs, rfl, ha, k⟩ := h
  refine ⟨_, (pss_one (ps_ret (pe_lst (pa_cons (pe_slice (k_slL K) (pv 0) po_none (po_some pe_int)) (pa_cons pe_int (pa_cons pe_int (pa_cons pe_int pa_nil))))))), ?_⟩
  obtain ⟨cs', hc⟩ := cut_ints cs none (some 63)
  refine ⟨.ref a, rfl, 63, rfl, a, cs.map V.int, rfl, ha, fun c hc0 => ⟨Evl.sz_of (by simp), fun p hp => ?_⟩⟩
  have s1 : Same H (upd H c (.lst (cutV (cs.map V.int) none (some 63)))) := Same.new hc0
  have s2 := Same.new (o := .lst [.ref c, .int 0, .int 0, .int 0]) hp
  exact k p c cs' _ (s1.free hp) (s1.trans s2) ⟨s2 _ _ (by rw [hc]; exact upd_same), 0, 0, upd_same⟩
abbrev s_law_draw : Stmt := topS 32
theorem sc_law_draw : FnScope ["_law_feed_here", "_law_bound", "_law_digit", "_law_spot", "_law_cell", "_law_mixed"] ["_law_feed_here", "_law_bound"] (defScope s_law_draw) := ⟨rfl, rfl, rfl, by decide +kernel, rfl, by decide +kernel, by decide +kernel⟩
-- 0 _law_feed_here, 1 _law_bound, 2 _law_digit, 3 _law_spot, 4 _law_cell, 5 _law_mixed
theorem ok_law_draw (B : Bn mg) {f : Addr} {fd : FuncData} (F : Fun K "_law_draw" "_law_draw" s_law_draw f fd) : FnOk P w K mg base CX0 1 f fd ["_law_feed_here", "_law_bound"] spDraw := by
  refine F.ok sc_law_draw (fun vs H Q E h => by obtain ⟨p, c, cs, n, b, rfl, _⟩ := h; rfl) (fun cdv A outer s H vs Q E hr h => ?_)
  obtain ⟨p, c, cs, n, b, rfl, hF, hb, hb2, hn, k⟩ := h
  refine ⟨_, (pss_cons (ps_asg (pe_op op_add (pe_ix (k_ixL K) (pv 0) pe_int (fun _ _ => rfl)) pe_int) (pg_sub (pv 0) pe_int set_list))
      (pss_cons (ps_if (pt_cmpR (k_eqD K hr.units) (pe_ix (k_ixL K) (pv 0) pe_int (fun _ _ => rfl)) (pe_lst pa_nil) (nomark _)) (pss_one (ps_ret (pe_op op_mod (pe_callTy cb_int (by rfl) B.int boot_int (pa_cons (pe_op op_add (pe_op op_mul pe_int (pe_ix (k_ixL K) (pv 0) pe_int (fun _ _ => rfl))) pe_int) pa_nil)) (pv 1)))) pss_nil)
      (pss_cons (ps_if (pt_cmpR op_gt (pe_ix (k_ixL K) (pv 0) pe_int (fun _ _ => rfl)) pe_int (nomark _)) (pss_cons (ps_set (i := 2) sc_law_draw.nd rfl (Or.inl rfl) (pe_op op_mod (pe_callTy cb_int (by rfl) B.int boot_int (pa_cons (pe_ix (k_ixL K) (pv 0) pe_int (fun _ _ => rfl)) pa_nil)) (pv 1)))
      (pss_cons (ps_asg (pe_op op_fdiv (pe_ix (k_ixL K) (pv 0) pe_int (fun _ _ => rfl)) (pv 1)) (pg_sub (pv 0) pe_int set_list))
      (pss_one (ps_ret (pv 2))))) pss_nil)
      (pss_cons (ps_set (i := 3) sc_law_draw.nd rfl (Or.inl rfl) (pe_ix (k_ixL K) (pv 0) pe_int (fun _ _ => rfl)))
      (pss_cons (ps_asg (pe_op op_add (pv 3) pe_int) (pg_sub (pv 0) pe_int set_list))
      (pss_cons (ps_set (i := 4) sc_law_draw.nd rfl (Or.inl rfl) (pe_ix (k_ixL K) (pe_ix (k_ixL K) (pv 0) pe_int (fun _ _ => rfl)) (pe_op op_mod (pe_callTy cb_int (by rfl) B.int boot_int (pa_cons (pv 3) pa_nil)) (pe_callB (k_len K) (by rfl) B.len PySem.boot_len (pa_cons (pe_ix (k_ixL K) (pv 0) pe_int (fun _ _ => rfl)) pa_nil))) (fun _ _ => rfl)))
      (pss_cons (ps_if (PW.pt (pw_and (pt_cmpR op_ge (pv 4) (pe_op op_pow pe_int pe_int) (nomark _)) (pw_and1 (pt_cmpR op_lt (pv 3) (pe_callB (k_len K) (by rfl) B.len PySem.boot_len (pa_cons (pe_ix (k_ixL K) (pv 0) pe_int (fun _ _ => rfl)) pa_nil)) (nomark _))))) (pss_cons (ps_asg (pe_op op_fdiv (pv 4) (pv 1)) (pg_sub (pv 0) pe_int set_list))
      (pss_one (ps_ret (pe_op op_mod (pe_callTy cb_int (by rfl) B.int boot_int (pa_cons (pv 4) pa_nil)) (pv 1))))) pss_nil)
      (pss_cons (ps_set (i := 5) sc_law_draw.nd rfl (Or.inl rfl) (pe_op op_mod (pe_callTy cb_int (by rfl) B.int boot_int (pa_cons (pe_op op_pow (pe_op op_add (pe_op op_add (pe_op op_mod (pe_callTy cb_int (by rfl) B.int boot_int (pa_cons (pv 4) pa_nil)) pe_int) (pe_op op_mul pe_int (pe_ix (k_ixL K) (pv 0) pe_int (fun _ _ => rfl)))) pe_int) pe_int) pa_nil)) pe_int))
      (pss_cons (ps_set (i := 5) sc_law_draw.nd rfl (Or.inl rfl) (pe_op op_mod (pe_callTy cb_int (by rfl) B.int boot_int (pa_cons (pe_op op_pow (pe_op op_add (pe_op op_add (pv 5) (pe_op op_mul (pe_op op_mul pe_int (pe_ix (k_ixL K) (pv 0) pe_int (fun _ _ => rfl))) (pe_ix (k_ixL K) (pv 0) pe_int (fun _ _ => rfl)))) pe_int) pe_int) pa_nil)) pe_int))
      (pss_one (ps_ret (pe_op op_mod (pe_callTy cb_int (by rfl) B.int boot_int (pa_cons (pe_op op_fdiv (pv 5) pe_int) pa_nil)) (pv 1))))))))))))), ?_⟩
  obtain ⟨spot, rest, ho⟩ := hF.own
  have hcp := hF.ne
  refine q_set (K := K) (k := 3) (v := vN (n + 1)) (vd_int (K := K) (ed_add (b := 1) (ed_of (vv_ixL (k := 3) (vv_var rfl) ho ed_int rfl)) ed_int)) (vv_var rfl) ed_int ho (by simp) fun H1 e1 => ?_
  have gc : upd H1 p (.lst [.ref c, vN spot, vN rest, vN (n + 1)]) c = some (.lst (cs.map V.int)) := by rw [upd_ne hcp]; exact e1 _ _ hF.cells
  have gp : upd H1 p (.lst [.ref c, vN spot, vN rest, vN (n + 1)]) p = some (.lst [.ref c, vN spot, vN rest, vN (n + 1)]) := upd_same
  have b1 : But p H (upd H1 p (.lst [.ref c, vN spot, vN rest, vN (n + 1)])) := (But.of e1).trans (.upd _ _ _)
  show tSeq _ _ _ _ (upd H1 p (.lst [.ref c, vN spot, vN rest, vN (n + 1)]))
  generalize upd H1 p (.lst [.ref c, vN spot, vN rest, vN (n + 1)]) = H2 at gc gp b1
  have fin : ∀ {H3 : Hp} {i : Int}, But p H2 H3 → (∃ s r : Nat, H3 p = some (.lst [.ref c, vN s, vN r, vN (n + 1)])) → Q (.int (i % (b : Int))) H3 := fun {H3 i} b3 ho3 => by
    obtain ⟨d, hd, e⟩ := mod_nat i hb
    rw [e]
    exact k d H3 hd (b1.trans b3) ⟨b3 _ _ hcp gc, ho3⟩
  have hL : Ls K H2 c (cs.map PyData.int) := ⟨_, gc, diInts cs⟩
  have cnt : ∀ {σ' : L2.St} {H3 : Hp} {s r : Nat}, σ'[0]? = some (some (.ref p)) → H3 p = some (.lst [.ref c, vN s, vN r, vN (n + 1)]) → EvD K (tOp (rIxL K) (tVar 0) (tC (.int 3))) σ' H3 (nI (n + 1)) := fun {σ' H3 s r} hv g => ed_of (vv_ixL (k := 3) (vv_var hv) g ed_int rfl)
  refine q_if (et_test (et_eqNil (K := K) (cs := cs) (vv_ixL (k := 0) (vv_var rfl) gp ed_int rfl) gc)) (fun hz H3 e3 => ?_) fun hz H3 e3 => ?_
  · refine q_ret (K := K) (ed_mod (ed_toInt (ed_addI (ed_mulI ed_int (cnt rfl (e3 _ _ gp)) (.inl ⟨by decide, by decide⟩)) ed_int)) (ed_var rfl (.int _)) (by omega)) fun v H4 e4 hv => ?_
    rw [hv.inv_int]
    exact fin (But.of (e3.trans e4)) ⟨spot, rest, (e3.trans e4) _ _ gp⟩
  · have gp3 := e3 _ _ gp
    refine q_if (et_test (K := K) (ed_gtN (b := 0) (ed_of (vv_ixL (k := 2) (vv_var rfl) gp3 ed_int rfl)) ed_int)) (fun hr H4 e4 => ?_) fun hr H4 e4 => ?_
    · have gp4 := e4 _ _ gp3
      refine q_D (K := K) (ed_mod (ed_toInt (ed_of (vv_ixL (k := 2) (vv_var rfl) gp4 ed_int rfl))) (ed_var rfl (.int _)) (by omega)) fun v H5 e5 hv => ?_
      have gp5 := e5 _ _ gp4
      refine q_set (K := K) (k := 2) (v := vN (rest / b)) (vd_int (K := K) (ed_fdivN (ed_of (vv_ixL (k := 2) (vv_var rfl) gp5 ed_int rfl)) (ed_var rfl (.int _)) hb (by omega))) (vv_var rfl) ed_int gp5 (by simp) fun H6 e6 => ?_
      refine q_ret (K := K) (ed_var rfl (hv.tx ((Same.tx e6).trans (.upd (.lst (e6 _ _ gp5)))))) fun u H7 e7 hu => ?_
      rw [hu.inv_int]
      exact fin ((But.of (((e3.trans e4).trans e5).trans e6)).trans ((But.upd _ _ _).trans (But.of e7))) ⟨spot, rest / b, e7 _ _ upd_same⟩
    · have gp4 := e4 _ _ gp3
      refine q_N (K := K) (ed_of (vv_ixL (k := 1) (vv_var rfl) gp4 ed_int rfl)) fun H5 e5 => ?_
      have gp5 := e5 _ _ gp4
      refine q_set (K := K) (k := 1) (v := vN (spot + 1)) (vd_int (K := K) (ed_add (b := 1) (ed_var rfl (.int _)) ed_int)) (vv_var rfl) ed_int gp5 (by simp) fun H6 e6 => ?_
      have e26 := ((e3.trans e4).trans e5).trans e6
      have gc7 : upd H6 p (.lst [.ref c, vN (spot + 1), vN rest, vN (n + 1)]) c = some (.lst (cs.map V.int)) := by rw [upd_ne hcp]; exact e26 _ _ gc
      have gp7 : upd H6 p (.lst [.ref c, vN (spot + 1), vN rest, vN (n + 1)]) p = some (.lst [.ref c, vN (spot + 1), vN rest, vN (n + 1)]) := upd_same
      have b7 : But p H2 (upd H6 p (.lst [.ref c, vN (spot + 1), vN rest, vN (n + 1)])) := (But.of e26).trans (.upd _ _ _)
      show tSeq _ _ _ _ (upd H6 p (.lst [.ref c, vN (spot + 1), vN rest, vN (n + 1)]))
      generalize upd H6 p (.lst [.ref c, vN (spot + 1), vN rest, vN (n + 1)]) = H7 at gc7 gp7 b7
      have hpos : 0 < cs.length := by
        cases cs with
        | nil => simp at hz
        | cons x xs => simp
      have hL7 : Ls K H7 c (cs.map PyData.int) := ⟨_, gc7, diInts cs⟩
      have hlen : ∀ {σ' : L2.St} {H3 : Hp}, σ'[0]? = some (some (.ref p)) → Same H7 H3 → EvD K (tCB (rLen K) (tCons (tOp (rIxL K) (tVar 0) (tC (.int 0))) tNil)) σ' H3 (nI cs.length) := fun {σ' H3} hv e =>
        (ed_lenL (vv_ixL (k := 0) (vv_var hv) (e _ _ gp7) ed_int rfl) (hL7.to e)).is (by rw [List.length_map])
      have hmod : spot % cs.length < cs.length := Nat.mod_lt _ hpos
      refine q_D (K := K) (d := .int cs[spot % cs.length]) (ed_of (vv_ixL (k := spot % cs.length) (vv_ixL (k := 0) (vv_var rfl) gp7 ed_int rfl) gc7 (ed_modN (ed_toInt (ed_var rfl (.int _))) (hlen rfl (Same.refl _)) hpos)
        (by rw [List.getElem?_map, List.getElem?_eq_getElem hmod]; rfl))) fun v H8 e8 hv => ?_
      cases hv.inv_int
      generalize cs[spot % cs.length] = cell at hv ⊢
      have gp8 := e8 _ _ gp7
      refine q_if (et_and (et_test (K := K) (ed_geI (ed_var rfl (.int _)) (ed_pow (b := 18) ed_int ed_int (by decide) (by decide)))) fun _ => et_test (K := K) (ed_ltN (ed_var rfl (.int _)) (hlen rfl e8))) (fun hq H9 e9 => ?_) fun hq H9 e9 => ?_
      · have hcell : 10 ^ 18 ≤ cell := by
          have := (Bool.and_eq_true_iff.mp hq).1
          exact of_decide_eq_true this
        have hdiv : cell / (b : Int) = ((cell / (b : Int)).toNat : Int) := (Int.toNat_of_nonneg (Int.ediv_nonneg (by omega) (by omega))).symm
        have gp9 := e9 _ _ gp8
        refine q_set (K := K) (k := 2) (v := vN (cell / (b : Int)).toNat) (vd_int (K := K) ((ed_fdivI (b := b) (ed_var rfl (.int _)) (ed_var rfl (.int _)) hb (by omega)).is (by rw [hdiv]; rfl))) (vv_var rfl) ed_int gp9 (by simp) fun H10 e10 => ?_
        refine q_ret (K := K) (ed_mod (ed_toInt (ed_var rfl (.int _))) (ed_var rfl (.int _)) (by omega)) fun u H11 e11 hu => ?_
        rw [hu.inv_int]
        exact fin ((b7.trans (But.of ((e8.trans e9).trans e10))).trans ((But.upd _ _ _).trans (But.of e11))) ⟨spot + 1, _, e11 _ _ upd_same⟩
      · have gp9 := e9 _ _ gp8
        have m1 := Int.emod_nonneg cell (show (1999999073 : Int) ≠ 0 by decide)
        have m2 := Int.emod_lt_of_pos cell (show (0 : Int) < 1999999073 by decide)
        refine q_D (K := K) (ed_mod (ed_toInt (ed_pow (b := 3) (ed_addI (ed_addI (ed_mod (ed_toInt (ed_var rfl (.int _))) ed_int (by decide)) (ed_mulI ed_int (cnt rfl gp9) (.inl ⟨by decide, by decide⟩))) ed_int) ed_int (by decide) (by omega))) ed_int (by decide)) fun v5 H10 e10 hv5 => ?_
        cases hv5.inv_int
        generalize ((cell % 1999999073 + 12713 * ((n + 1 : Nat) : Int) + 149) ^ 3) = big at hv5 ⊢
        have m3 := Int.emod_nonneg big (show (2147482237 : Int) ≠ 0 by decide)
        have m4 := Int.emod_lt_of_pos big (show (0 : Int) < 2147482237 by decide)
        have gp10 := e10 _ _ gp9
        have hsq : (n + 1) * (n + 1) ≤ 1000000 * 1000000 := Nat.mul_le_mul (by omega) (by omega)
        have hsq2 : 1181 * ((n + 1 : Nat) : Int) * ((n + 1 : Nat) : Int) = 1181 * (((n + 1) * (n + 1) : Nat) : Int) := by rw [Int.natCast_mul, Int.mul_assoc]
        refine q_D (K := K) (ed_mod (ed_toInt (ed_pow (b := 5) (ed_addI (ed_addI (ed_var rfl (.int _)) (ed_mulI (ed_mulI ed_int (cnt rfl gp10) (.inl ⟨by decide, by decide⟩)) (cnt rfl gp10) (.inl ⟨by omega, by omega⟩))) ed_int) ed_int (by decide) (by rw [hsq2]; omega))) ed_int (by decide)) fun v6 H11 e11 hv6 => ?_
        refine q_ret (K := K) (ed_mod (ed_toInt (ed_fdivI (b := 64) (ed_var rfl hv6) ed_int (by decide) (by decide))) (ed_var rfl (.int _)) (by omega)) fun u H12 e12 hu => ?_
        rw [hu.inv_int]
        have e7 := ((e8.trans e9).trans e10).trans (e11.trans e12)
        exact fin (b7.trans (But.of e7)) ⟨spot + 1, rest, e7 _ _ gp7⟩
end
end K63
/-! K63Lay14: values drawn; lists of drawn values; tuples joined and cut. -/
namespace K63
open PySem PySem.Spec PyProof.Rows L2 RZ
/-- gives data of which ok holds, drawing at most `most` times from the feed at p -/
def EvF (K : PySem.W.Frag) (te : TE) (σ : L2.St) (H : Hp) (p c : Addr) (cs : List Int) (most : Nat) (ok : PyData → Prop) : Prop :=
  ∀ H1 n1, But p H H1 → Feed H1 p c cs n1 → n1 + most ≤ 900000 → ∀ Q : VK, (∀ v H2 n2 d, But p H1 H2 → Feed H2 p c cs n2 → n1 ≤ n2 → n2 ≤ n1 + most → Di K H2 v d → ok d → Q v H2) → te σ H1 Q
/-- a new list of such -/
def EvFL (K : PySem.W.Frag) (te : TE) (σ : L2.St) (H : Hp) (p c : Addr) (cs : List Int) (most : Nat) (ok : List PyData → Prop) : Prop :=
  ∀ H1 n1, But p H H1 → Feed H1 p c cs n1 → n1 + most ≤ 900000 → ∀ Q : VK, (∀ l xs H2 n2 ds, H1 l = none → But p H1 H2 → Feed H2 p c cs n2 → n1 ≤ n2 → n2 ≤ n1 + most → H2 l = some (.lst xs) → DiAll K H2 xs ds → ok ds → Q (.ref l) H2) → te σ H1 Q
/-- what a loop goes over, where a list besides may change -/
def SrcB (K : PySem.W.Frag) (wi : TI) (σ : L2.St) (H1 : Hp) (ds : List PyData) : Prop :=
  ∀ R : It → Hp → Prop, (∀ J H2, Same H1 H2 → Walk J ds.length (fun H' => Tx H2 H') (fun i H' x H'' => H'' = H' ∧ PDat K ds i x H') → R J H2) → wi σ H1 R
section
variable {K : PySem.W.Frag} {σ : L2.St} {H H' : Hp} {ta tb tc td te tl ty : TE} {tt : TT} {tas : TA} {d : PyData} {ds es : List PyData} {v : V} {p c l : Addr} {D : Ends} {tz : TS} {i j k n most : Nat} {vs : List Nat} {cs : List Int} {wi : TI} {ok : PyData → Prop} {okL : List PyData → Prop}
theorem srcB_tup (h : EvD K ta σ H (.tuple ds)) : SrcB K (iTup K ta) σ H ds := fun R q => h H (Same.refl _) _ fun v H2 e2 hv => by
  obtain ⟨a, xs, rfl, h1, h2⟩ := hv.inv_tup
  refine ⟨a, rfl, ⟨xs, h1⟩, q _ H2 e2 ?_⟩
  rw [← h2.len]
  exact walk_tup.mono (fun H3 e3 => e3.sq h1) fun i H3 x H4 hi e3 y => by
    obtain ⟨rfl, hx⟩ := y
    obtain ⟨d, hd, r⟩ := h2.at hx
    exact ⟨rfl, d, hd, r.tx e3⟩
theorem srcB_rng {m : Nat} (h : EvDs K tas σ H [nI m]) (hm : m < 100000) : SrcB K (iRng1 tas) σ H ((List.range m).map nI) := fun R q => h H (Same.refl _) _ fun ws H2 e2 hw => by
  obtain ⟨v, rfl, hv⟩ := hw.inv1
  refine ⟨(m : Int), by rw [hv.inv_int], by omega, by omega, q _ H2 e2 ?_⟩
  rw [List.length_map, List.length_range]
  refine (show Walk (Itr 0 ((m : Int)).toNat) m (fun _ => True) (YFn fun i => V.int (0 + (i : Int))) from walk_range).mono (fun _ _ => trivial) fun i H3 x H4 hi e3 y => ?_
  obtain ⟨rfl, rfl⟩ := y
  refine ⟨rfl, nI i, ?_, ?_⟩
  · rw [List.getElem?_map, List.getElem?_range hi]; rfl
  · show Di K H4 (V.int (0 + (i : Int))) (nI i)
    rw [show (0 : Int) + (i : Int) = (i : Int) by omega]; exact .int _
theorem EvF.mono (h : EvF K te σ H p c cs most ok) (b : But p H H') : EvF K te σ H' p c cs most ok := fun H1 n1 b1 => h H1 n1 (b.trans b1)
theorem ef_of (h : ∀ H1, But p H H1 → EvD K te σ H1 d) (ho : ok d) : EvF K te σ H p c cs 0 ok := fun H1 n1 b1 f1 hn Q q => h H1 b1 H1 (Same.refl _) Q fun v H2 e2 hv => q v H2 n1 d (.of e2) (f1.to e2) (Nat.le_refl _) (by omega) hv ho
theorem ef_more {m : Nat} (h : EvF K te σ H p c cs m ok) (hm : m ≤ most) : EvF K te σ H p c cs most ok := fun H1 n1 b1 f1 hn Q q => h H1 n1 b1 f1 (by omega) Q fun v H2 n2 d b2 f2 h1 h2 => q v H2 n2 d b2 f2 h1 (by omega)
theorem ef_draw {b : Nat} (ha : ∀ H1, EvV ta σ H1 (.ref p)) (hb : ∀ H1, EvD K tb σ H1 (nI b)) (h0 : 0 < b) (h1 : b < 1000) : EvF K (tCall spDraw [] E0 (tCons ta (tCons tb tNil))) σ H p c cs 1 fun d => ∃ x, x < b ∧ d = nI x := fun H1 n1 b1 f1 hn Q q =>
  ha H1 H1 (Same.refl _) _ fun H2 e2 => hb H2 H2 (Same.refl _) _ fun v H3 e3 hv => ⟨p, c, cs, n1, b, by rw [hv.inv_int]; rfl, f1.to (e2.trans e3), h0, h1, by omega, fun x H4 hx b4 f4 =>
    q (vN x) H4 (n1 + 1) (nI x) ((But.of (e2.trans e3)).trans b4) f4 (by omega) (by omega) (.int _) ⟨x, hx, rfl⟩⟩
theorem ef_tupL (h : EvFL K te σ H p c cs most okL) : EvF K (tCB (rTupOf K) (tCons te tNil)) σ H p c cs most fun d => ∃ ds, d = .tuple ds ∧ okL ds := fun H1 n1 b1 f1 hn Q q =>
  h H1 n1 b1 f1 hn _ fun l xs H2 n2 ds hl b2 f2 h1 h2 hx hd ho => ⟨l, xs, rfl, .inl ⟨.of hx, fun t ht => q _ _ n2 (.tuple ds) (b2.trans (.of (Same.new ht))) (f2.new ht) h1 h2 (.tup (.of upd_same) (hd.to (Same.new ht))) ⟨ds, rfl, ho⟩⟩⟩
/-- a comprehension whose items draw -/
theorem ef_comp {okE : PyData → PyData → Prop} (hs : ∀ H1, But p H H1 → NoTup H1 p → SrcB K wi σ H1 ds) (hz : ds.length ≤ 40000) (hw : ∀ x, wipe ((wipe σ vs).set j (some x)) vs = wipe σ vs)
    (he : ∀ (i : Nat) (d : PyData) (x : V) (H1 : Hp), ds[i]? = some d → But p H H1 → NoTup H1 p → Di K H1 x d → EvF K te ((wipe σ vs).set j (some x)) H1 p c cs most (okE d)) :
    EvFL K (tLc wi (gName j) tYes te vs) σ H p c cs (ds.length * most) (F2 okE ds) := fun H1 n1 b1 f1 hn Q q => hs H1 b1 f1.noTup _ fun J H2 e2 w => fun D hD => by
  have f2 := f1.to e2
  have hDp : D ≠ p := fun z => f2.some (z ▸ hD)
  have hDc : D ≠ c := fun z => by rw [z, f2.cells] at hD; cases hD
  have hmul : ∀ i, i ≤ ds.length → i * most ≤ ds.length * most := fun i hi => Nat.mul_le_mul_right _ hi
  refine lc_it w (fun i H' => But p H2 H' ∧ ∃ n', Feed H' p c cs n' ∧ n1 ≤ n' ∧ n' ≤ n1 + i * most ∧ ∃ acc rs, H' D = some (.lst acc) ∧ DiAll K H' acc rs ∧ F2 okE (ds.take i) rs)
    ⟨.of (Same.new hD), n1, f2.new hD, Nat.le_refl _, by omega, [], [], upd_same, .nil, by simpa using F2.nil⟩ (fun i H' _ h => h.1.tx f2.noTup) (fun i x H3 H4 hi hP hY => ?_) fun H3 hP => ?_
  · obtain ⟨b3, n3, f3, hn3, hm3, acc, rs, hacc, hda, hrs⟩ := hP
    obtain ⟨rfl, d, hd, hx⟩ := hY
    refine ⟨hw x, ?_⟩
    have hsucc : (i + 1) * most = i * most + most := by rw [Nat.add_mul, Nat.one_mul]
    have hle := hmul (i + 1) hi
    have hrl : rs.length = i := by rw [← hrs.len, List.length_take]; omega
    refine he i d x H4 hd (b1.trans ((But.of e2).trans b3)) f3.noTup hx H4 n3 (But.refl _ _) f3 (by omega) _ fun v H5 n5 r b5 f5 h5 h5' hv hok => ?_
    have hacc5 : H5 D = some (.lst acc) := b5 _ _ hDp hacc
    refine ⟨acc, hacc5, Evl.sz_lt (by rw [hda.len, hrl]; omega), (b3.trans b5).mut hD, n5, f5.put hDp hDc, by omega, by omega, acc ++ [v], rs ++ [r], upd_same, ?_, ?_⟩
    · exact ((hda.tx (b5.tx f3.noTup)).snoc hv).tx (.upd (.lst hacc5))
    · rw [List.take_add_one, hd]
      exact hrs.append (.cons hok .nil)
  · obtain ⟨b3, n3, f3, hn3, hm3, acc, rs, hacc, hda, hrs⟩ := hP
    rw [List.take_length] at hrs
    exact q D acc H3 n3 rs (e2.free hD) ((But.of e2).trans b3) f3 hn3 hm3 hacc hda hrs
/-! tuples joined, cut -/
theorem DiAll.take {xs : List V} (h : DiAll K H xs ds) (k : Nat) : DiAll K H (xs.take k) (ds.take k) := by
  refine DiAll.of_get (by simp [h.len]) fun i v d hv hd => ?_
  rw [List.getElem?_take] at hv hd
  split at hv
  · rename_i hlt
    rw [if_pos hlt] at hd
    obtain ⟨u, e1, r⟩ := h.get hd
    rw [hv] at e1; cases e1; exact r
  · cases hv
theorem DiAll.drop {xs : List V} (h : DiAll K H xs ds) (k : Nat) : DiAll K H (xs.drop k) (ds.drop k) := by
  refine DiAll.of_get (by simp [h.len]) fun i v d hv hd => ?_
  rw [List.getElem?_drop] at hv hd
  obtain ⟨u, e1, r⟩ := h.get hd
  rw [hv] at e1; cases e1; exact r
theorem ed_cat (ha : EvD K ta σ H (.tuple ds)) (hb : EvD K tb σ H (.tuple es)) (hz : ds.length + es.length ≤ 100000) : EvD K (tOp (rCatA K) ta tb) σ H (.tuple (ds ++ es)) := fun H1 e Q q =>
  ha H1 e _ fun x H2 e2 hx => hb H2 (e.trans e2) _ fun y H3 e3 hy => by
    have hx3 := hx.to e3
    obtain ⟨a, xs, rfl, h1, h2⟩ := id hx3.inv_tup
    obtain ⟨b, ys, rfl, h3, h4⟩ := id hy.inv_tup
    have e23 := e2.trans e3
    refine ⟨a, b, xs, ys, rfl, rfl, h1, h3, Evl.sz_of (by rw [h2.len, h4.len]; exact hz), fun z => ?_, fun _ z => ?_, fun _ _ t ht => q _ _ (e23.trans (Same.new ht)) (.tup (.of upd_same) ((h2.append h4).to (Same.new ht)))⟩
    · subst z
      cases h2
      exact q _ _ e23 hy
    · subst z
      cases h4
      exact q _ _ e23 (by rw [List.append_nil]; exact hx3)
/-- t[k:] -/
theorem ed_from (ha : EvD K ta σ H (.tuple ds)) (hb : EvD K tb σ H (nI k)) : EvD K (tSl (rSlA K) ta (tPart tb) tNoPart) σ H (.tuple (ds.drop k)) := fun H1 e Q q =>
  ha H1 e _ fun x H2 e2 hx => hb H2 (e.trans e2) _ fun y H3 e3 hy => by
    have hx3 := hx.to e3
    obtain ⟨a, xs, rfl, h1, h2⟩ := id hx3.inv_tup
    have e23 := e2.trans e3
    have hl := h2.len
    refine ⟨(k : Int), hy.inv_int, a, xs, rfl, h1, fun z => ?_, fun _ t ht => ?_⟩
    · rw [HT.sIx_nat, HT.sIx_none] at z
      have : ds.drop k = ds := by
        have := z.1
        by_cases hk : k = 0
        · subst hk; rfl
        · have : xs.length = 0 := by omega
          have : ds = [] := List.length_eq_zero_iff.mp (by omega)
          subst this; simp
      exact q _ _ e23 (by rw [this]; exact hx3)
    · refine q _ _ (e23.trans (Same.new ht)) (.tup (.of upd_same) (DiAll.to ?_ (Same.new ht)))
      unfold cutV
      rw [HT.sIx_nat, HT.sIx_none]
      have hd : xs.drop (min k xs.length) = xs.drop k := by
        by_cases hk : k ≤ xs.length
        · rw [Nat.min_eq_left hk]
        · rw [Nat.min_eq_right (by omega), List.drop_length, List.drop_eq_nil_of_le (by omega)]
      rw [hd, List.take_of_length_le (by rw [List.length_drop]; omega)]
      exact h2.drop k
/-- t[:k] -/
theorem ed_upto (ha : EvD K ta σ H (.tuple ds)) (hb : EvD K tb σ H (nI k)) : EvD K (tSl (rSlA K) ta tNoPart (tPart tb)) σ H (.tuple (ds.take k)) := fun H1 e Q q =>
  ha H1 e _ fun x H2 e2 hx => hb H2 (e.trans e2) _ fun y H3 e3 hy => by
    have hx3 := hx.to e3
    obtain ⟨a, xs, rfl, h1, h2⟩ := id hx3.inv_tup
    have e23 := e2.trans e3
    have hl := h2.len
    refine ⟨(k : Int), hy.inv_int, a, xs, rfl, h1, fun z => ?_, fun _ t ht => ?_⟩
    · rw [HT.sIx_nat, HT.sIx_none] at z
      exact q _ _ e23 (by rw [List.take_of_length_le (by omega)]; exact hx3)
    · refine q _ _ (e23.trans (Same.new ht)) (.tup (.of upd_same) (DiAll.to ?_ (Same.new ht)))
      unfold cutV
      rw [HT.sIx_nat, HT.sIx_none, List.drop_zero, Nat.sub_zero]
      have hd : xs.take (min k xs.length) = xs.take k := by
        by_cases hk : k ≤ xs.length
        · rw [Nat.min_eq_left hk]
        · rw [Nat.min_eq_right (by omega), List.take_length, List.take_of_length_le (by omega)]
      rw [hd]
      exact h2.take k
/-! in statements -/
theorem ef_plus {b : Nat} (h : EvF K te σ H p c cs most fun d => ∃ x, x < b ∧ d = nI x) (hk : ∀ H1, EvD K ta σ H1 (nI k)) : EvF K (tOp (rI0 fun i j => .int (i + j)) ta te) σ H p c cs most fun d => ∃ x, x < b ∧ d = nI (k + x) := fun H1 n1 b1 f1 hn Q q =>
  hk H1 H1 (Same.refl _) _ fun u H2 e2 hu => h H2 n1 (b1.trans (.of e2)) (f1.to e2) hn _ fun v H3 n2 d b2 f2 h1 h2 hv hd => by
    obtain ⟨x, hx, rfl⟩ := hd
    rw [hv.inv_int, hu.inv_int]
    refine ⟨(k : Int), (x : Int), rfl, rfl, q _ H3 n2 (nI (k + x)) ((But.of e2).trans b2) f2 h1 h2 ?_ ⟨x, hx, rfl⟩⟩
    have : (k : Int) + (x : Int) = ((k + x : Nat) : Int) := by omega
    show Di K H3 (V.int ((k : Int) + (x : Int))) _
    rw [this]; exact .int _
theorem ef_tup3 {d1 d2 : PyData} (h1 : ∀ H1, But p H H1 → NoTup H1 p → EvD K ta σ H1 d1) (h2 : ∀ H1, But p H H1 → NoTup H1 p → EvD K tb σ H1 d2) (h3 : EvF K te σ H p c cs most ok) :
    EvF K (tTup (tCons ta (tCons tb (tCons te tNil)))) σ H p c cs most fun d => ∃ d3, d = .tuple [d1, d2, d3] ∧ ok d3 := fun H1 n1 b1 f1 hn Q q =>
  h1 H1 b1 f1.noTup H1 (Same.refl _) _ fun u1 H2 e2 hu1 => h2 H2 (b1.trans (.of e2)) (f1.to e2).noTup H2 (Same.refl _) _ fun u2 H3 e3 hu2 => h3 H3 n1 ((b1.trans (.of e2)).trans (.of e3)) ((f1.to e2).to e3) hn _ fun v H4 n2 d b4 f4 ha hb hv ho =>
    ⟨Evl.sz_of (by simp), fun t ht => by
      have tx := b4.tx ((f1.to e2).to e3).noTup
      have s := Same.new (o := .tup [u1, u2, v]) ht
      exact q _ _ n2 (.tuple [d1, d2, d]) (((But.of (e2.trans e3)).trans b4).trans (.of s)) (f4.new ht) ha hb (.tup (.of upd_same) (.cons (((hu1.to e3).tx tx).to s) (.cons ((hu2.tx tx).to s) (.one (hv.to s))))) ⟨d, rfl, ho⟩⟩
theorem q_F (h : EvF K te σ H p c cs most ok) (hF : Feed H p c cs n) (hn : n + most ≤ 900000) (k : ∀ v H1 n1 d, But p H H1 → Feed H1 p c cs n1 → n ≤ n1 → n1 ≤ n + most → Di K H1 v d → ok d → tz D (σ.set i (some v)) H1) : tSeq (tAsg te (gName i)) tz D σ H := h H n (.refl _ _) hF hn _ k
theorem q_FL (h : EvFL K te σ H p c cs most okL) (hF : Feed H p c cs n) (hn : n + most ≤ 900000) (k : ∀ l xs H1 n1 ds, H l = none → But p H H1 → Feed H1 p c cs n1 → n ≤ n1 → n1 ≤ n + most → H1 l = some (.lst xs) → DiAll K H1 xs ds → okL ds → tz D (σ.set i (some (.ref l))) H1) :
    tSeq (tAsg te (gName i)) tz D σ H := h H n (.refl _ _) hF hn _ k
theorem q_retF (h : EvF K te σ H p c cs most ok) (hF : Feed H p c cs n) (hn : n + most ≤ 900000) (k : ∀ v H1 n1 d, But p H H1 → Feed H1 p c cs n1 → n ≤ n1 → n1 ≤ n + most → Di K H1 v d → ok d → D.rt v H1) : tRet te D σ H := h H n (.refl _ _) hF hn _ k
theorem q_setD {xs : List V} (hv : EvD K te σ H d) (ho : EvV td σ H (.ref l)) (hi : EvD K ty σ H (nI k)) (hp : H l = some (.lst xs)) (hk : k < xs.length)
    (h : ∀ v H1, Same H H1 → Di K H1 v d → tz D σ (upd H1 l (.lst (xs.set k v)))) : tSeq (tAsg te (gSub td ty rSetL)) tz D σ H := hv H (Same.refl _) _ fun v H1 e1 hv1 => ho H1 e1 _ fun H2 e2 => hi H2 (e1.trans e2) _ fun y H3 e3 hy => by
  have e := (e1.trans e2).trans e3
  refine ⟨l, xs, (k : Int), k, rfl, hy.inv_int, e _ _ hp, ?_, h v H3 e (hv1.to (e2.trans e3))⟩
  unfold ixN
  rw [if_pos (by omega), if_pos (by omega)]
  simp
theorem DiAll.set {xs : List V} (h : DiAll K H xs ds) (hv : Di K H v d) (k : Nat) : DiAll K H (xs.set k v) (ds.set k d) := by
  refine DiAll.of_get (by simp [h.len]) fun i u e hu he => ?_
  rw [List.getElem?_set] at hu he
  have hl := h.len
  by_cases e1 : k = i
  · rw [if_pos e1] at hu he
    split at hu
    · rw [if_pos (by omega)] at he
      cases hu; cases he; exact hv
    · cases hu
  · rw [if_neg e1] at hu he
    obtain ⟨w, e2, r⟩ := h.get he
    rw [hu] at e2; cases e2; exact r
end
end K63
/-! K63Work9: the law's reader. -/
namespace K63
open PySem PySem.Spec PyProof.Rows L2 RZ
def spReader (K : PySem.W.Frag) : Sp := fun vs H Q _ => ∃ (p c : Addr) (cs : List Int) (n most wide values : Nat), vs = [.ref p, vN most, vN wide, vN values] ∧ Feed H p c cs n ∧ 0 < most ∧ most ≤ 6 ∧ 2 ≤ wide ∧ wide ≤ 4 ∧ 0 < values ∧ values ≤ 3 ∧ n ≤ 800000 ∧
  ∀ R v H' m, But p H H' → Feed H' p c cs m → n ≤ m → m ≤ n + 100 → R.Zero → R.b = wide → R.mv.length ≤ most → (∀ x ∈ R.sh, x < values) → Di K H' v (tR R) → Q v H'
/-- drawn rows -/
def okNum (b : Nat) (d r : PyData) : Prop := ∃ x, x < b ∧ r = nI x
theorem f2_nums {b : Nat} {ds rs : List PyData} (h : F2 (okNum b) ds rs) : ∃ ns : List Nat, rs = ns.map nI ∧ ns.length = ds.length ∧ ∀ x ∈ ns, x < b := by
  induction h with
  | nil => exact ⟨[], rfl, rfl, fun _ h => by simp at h⟩
  | cons r _ ih =>
    obtain ⟨x, hx, rfl⟩ := r
    obtain ⟨ns, rfl, h1, h2⟩ := ih
    refine ⟨x :: ns, rfl, by simp [h1], fun y hy => ?_⟩
    rcases List.mem_cons.mp hy with rfl | hy
    · exact hx
    · exact h2 y hy
def okRow (w b : Nat) (d r : PyData) : Prop := ∃ ns : List Nat, r = tI ns ∧ ns.length = w ∧ ∀ x ∈ ns, x < b
theorem f2_rows {w b : Nat} {ds rs : List PyData} (h : F2 (okRow w b) ds rs) : ∃ rows : List (List Nat), rs = rows.map tI ∧ rows.length = ds.length ∧ (∀ r ∈ rows, r.length = w) ∧ ∀ r ∈ rows, ∀ x ∈ r, x < b := by
  induction h with
  | nil => exact ⟨[], rfl, rfl, fun _ h => by simp at h, fun _ h => by simp at h⟩
  | cons r _ ih =>
    obtain ⟨ns, rfl, hw, hx⟩ := r
    obtain ⟨rows, rfl, h1, h2, h3⟩ := ih
    refine ⟨ns :: rows, rfl, by simp [h1], fun y hy => ?_, fun y hy => ?_⟩
    · rcases List.mem_cons.mp hy with rfl | hy
      · exact hw
      · exact h2 y hy
    · rcases List.mem_cons.mp hy with rfl | hy
      · exact hx
      · exact h3 y hy
theorem set_mem {α : Type} {l : List α} {a x : α} {k : Nat} (h : x ∈ l.set k a) : x = a ∨ x ∈ l := by
  obtain ⟨i, hi⟩ := List.getElem?_of_mem h
  rw [List.getElem?_set] at hi
  split at hi
  · split at hi
    · exact .inl (Option.some.inj hi).symm
    · cases hi
  · exact .inr (List.mem_of_getElem? hi)
section
variable {P : Program} {w : World} {K : PySem.W.Frag} {mg : Str → Option Value} {base : Heap} {H H' : Hp} {σ : L2.St}
abbrev s_law_reader : Stmt := topS 33
theorem sc_law_reader : FnScope ["_law_feed_here", "_law_most", "_law_wide", "_law_values", "_law_many", "_law_moves", "_law_place", "_law_digit"] ["_law_feed_here", "_law_most", "_law_wide", "_law_values"] (defScope s_law_reader) := ⟨rfl, rfl, rfl, by decide +kernel, rfl, by decide +kernel, by decide +kernel⟩
-- 0 _law_feed_here, 1 _law_most, 2 _law_wide, 3 _law_values, 4 _law_many, 5 _law_moves, 6 _law_place, 7 _law_digit
theorem ok_law_reader (B : Bn mg) (c_law_draw : Cal P w K mg base "_law_draw" 1 ["_law_feed_here", "_law_bound"] [] spDraw) {f : Addr} {fd : FuncData} (F : Fun K "_law_reader" "_law_reader" s_law_reader f fd) :
    FnOk P w K mg base CX0 2 f fd ["_law_feed_here", "_law_most", "_law_wide", "_law_values"] (spReader K) := by
  refine F.ok sc_law_reader (fun vs H Q E h => by obtain ⟨p, c, cs, n, a1, a2, a3, rfl, _⟩ := h; rfl) (fun cdv A outer s H vs Q E hr h => ?_)
  obtain ⟨p, c, cs, n, most, wide, values, rfl, hF, hm0, hm, hw0, hw, hv0, hv, hn, k⟩ := h
  refine ⟨_, (pss_cons (ps_set (i := 4) sc_law_reader.nd rfl (Or.inr rfl) (pe_op op_add pe_int (pe_callC c_law_draw (hr.mono (by decide)) (by rfl) (pa_cons (pv 0) (pa_cons (pv 1) pa_nil)))))
      (pss_cons (ps_setLc (i := 5) (own := [("_law_place", 6)]) rfl sc_law_reader.nd rfl rfl (sw_true rfl rfl rfl (by decide +kernel)) (pi_range1 (by rfl) B.range (pa_cons (pv 4) pa_nil)) (blkOk_by (by kernel_rfl)) (fun _ _ _ _ _ => (pg_name (i := 6) sc_law_reader.nd rfl (Or.inl rfl))) (fun _ _ _ _ _ => pts_nil) (fun _ _ _ _ _ => (pe_callTy (k_tup K) (by rfl) B.tuple boot_tuple (pa_cons (pe_lc (own := [("_law_digit", 7)]) rfl sc_law_reader.nd (pi_range1 (by rfl) B.range (pa_cons (pv 2) pa_nil)) (blkOk_by (by kernel_rfl)) (fun _ _ _ _ _ => (pg_name (i := 7) sc_law_reader.nd rfl (Or.inl rfl))) (fun _ _ _ _ _ => pts_nil) (fun _ _ _ _ _ => (pe_callC c_law_draw (hr.mono (by decide)) (by rfl) (pa_cons (pv 0) (pa_cons (pv 4) pa_nil))))) pa_nil))))
      (pss_cons (ps_asg (pe_op (k_catT K) (pe_tup (pa_cons pe_int pa_nil)) (pe_slice (k_slT K) (pe_ix (k_ixL K) (pv 5) pe_int (fun _ _ => rfl)) (po_some pe_int) po_none)) (pg_sub (pv 5) pe_int set_list))
      (pss_one (ps_ret (pe_tup (pa_cons (pv 2) (pa_cons (pe_callTy (k_tup K) (by rfl) B.tuple boot_tuple (pa_cons (pv 5) pa_nil)) (pa_cons (pe_callTy (k_tup K) (by rfl) B.tuple boot_tuple (pa_cons (pe_lc (own := [("_law_place", 6)]) rfl sc_law_reader.nd (pi_range1 (by rfl) B.range (pa_cons (pv 4) pa_nil)) (blkOk_by (by kernel_rfl)) (fun _ _ _ _ _ => (pg_name (i := 6) sc_law_reader.nd rfl (Or.inl rfl))) (fun _ _ _ _ _ => pts_nil) (fun _ _ _ _ _ => (pe_callC c_law_draw (hr.mono (by decide)) (by rfl) (pa_cons (pv 0) (pa_cons (pv 3) pa_nil))))) pa_nil)) pa_nil))))))))), ?_⟩
  refine q_F (K := K) (ef_plus (k := 1) (ef_draw (b := most) (fun _ => vv_var rfl) (fun _ => ed_var rfl (.int _)) hm0 (by omega)) (fun _ => ed_int)) hF (by omega) fun v H1 n1 d b1 f1 h1 h1' hv1 hok => ?_
  obtain ⟨x, hx, rfl⟩ := hok
  cases hv1.inv_int
  have hmul : (1 + x) * (wide * 1) ≤ 6 * 4 := Nat.mul_le_mul (by omega) (by omega)
  refine q_FL (K := K) (ef_comp (ds := (List.range (1 + x)).map nI) (most := wide * 1) (okE := okRow wide (1 + x)) (fun H2 _ _ => srcB_rng (ea_one (ed_var rfl (.int _))) (by omega)) (by simp; omega) (fun _ => rfl) fun i d y H2 hd b2 nt2 hy => ?_) f1 (by simp only [List.length_map, List.length_range]; omega)
    fun l xs H2 n2 ds hl b2 f2 h2 h2' hlx hdx hF2 => ?_
  · have := ef_tupL (K := K) (te := tLc (iRng1 (tCons (tVar 2) tNil)) (gName 7) tYes (tCall spDraw [] E0 (tCons (tVar 0) (tCons (tVar 4) tNil))) [7]) (σ := [some (.ref p), some (vN most), some (vN wide), some (vN values), some (vN (1 + x)), none, some y, none]) (H := H2) (p := p) (c := c) (cs := cs)
      (ef_comp (ds := (List.range wide).map nI) (most := 1) (okE := okNum (1 + x)) (fun H3 _ _ => srcB_rng (ea_one (ed_var rfl (.int _))) (by omega)) (by simp; omega) (fun _ => rfl) fun i d z H3 hd b3 nt3 hz => ef_draw (fun _ => vv_var rfl) (fun _ => ed_var rfl (.int _)) (by omega) (by omega))
    rw [List.length_map, List.length_range] at this
    refine fun H3 n3 b3 f3 hn3 Q q => this H3 n3 b3 f3 hn3 Q fun v H4 n4 d b4 f4 h4 h4' hv4 ho4 => q v H4 n4 d b4 f4 h4 h4' hv4 ?_
    obtain ⟨ds, rfl, hds⟩ := ho4
    obtain ⟨ns, rfl, hl, hb⟩ := f2_nums hds
    exact ⟨ns, rfl, by simpa using hl, hb⟩
  · obtain ⟨rows, rfl, hrl, hrw, hrb⟩ := f2_rows hF2
    rw [List.length_map, List.length_range] at hrl h2'
    have hlp : l ≠ p := fun z => f1.some (z ▸ hl)
    have hlc : l ≠ c := fun z => by rw [z, f1.cells] at hl; cases hl
    obtain ⟨r0, hr0⟩ := get_of_lt (l := rows) (i := 0) (by omega)
    have hr0m := List.mem_of_getElem? hr0
    have hxl : xs.length = 1 + x := by rw [hdx.len, List.length_map, hrl]
    have hr0l := hrw r0 hr0m
    refine q_setD (K := K) (k := 0) (d := tI (0 :: r0.drop 1)) ((ed_cat (ds := [nI 0]) (es := (r0.map nI).drop 1) (ed_tup (ea_one ed_int) (Nat.le_of_ble_eq_true rfl)) (ed_from (k := 1) (ed_ixL (k := 0) (d := tI r0) (vv_var rfl) ⟨xs, hlx, hdx⟩ ed_int (by rw [List.getElem?_map, hr0]; rfl)) ed_int) (by simp; omega)).is (by simp [tI, List.map_drop]))
      (vv_var rfl) ed_int hlx (by omega) fun v0 H3 e3 hv0' => ?_
    have f3 := (f2.to e3).put (o := .lst (xs.set 0 v0)) hlp hlc
    have nt3 : NoTup H3 l := .lst (e3 _ _ hlx)
    have hl4 : Ls K (upd H3 l (.lst (xs.set 0 v0))) l ((rows.set 0 (0 :: r0.drop 1)).map tI) := ⟨xs.set 0 v0, upd_same, by rw [List.map_set]; exact ((hdx.to e3).set hv0' 0).tx (.upd nt3)⟩
    have b24 : But p H1 (upd H3 l (.lst (xs.set 0 v0))) := (b2.trans (.of e3)).mut hl
    show tRet _ _ _ (upd H3 l (.lst (xs.set 0 v0)))
    generalize upd H3 l (.lst (xs.set 0 v0)) = H4 at f3 hl4 b24
    have hcomp := ef_tupL (K := K) (te := tLc (iRng1 (tCons (tVar 4) tNil)) (gName 6) tYes (tCall spDraw [] E0 (tCons (tVar 0) (tCons (tVar 3) tNil))) [6]) (σ := [some (.ref p), some (vN most), some (vN wide), some (vN values), some (vN (1 + x)), some (.ref l), none, none]) (H := H4) (p := p) (c := c) (cs := cs)
      (ef_comp (ds := (List.range (1 + x)).map nI) (most := 1) (okE := okNum values) (fun H3 _ _ => srcB_rng (ea_one (ed_var rfl (.int _))) (by omega)) (by simp; omega) (fun _ => rfl) fun i d z H3 hd b3 nt3 hz => ef_draw (fun _ => vv_var rfl) (fun _ => ed_var rfl (.int _)) hv0 (by omega))
    rw [List.length_map, List.length_range] at hcomp
    have hL : ∀ {H5 : Hp}, But p H4 H5 → NoTup H5 p → Ls K H5 l ((rows.set 0 (0 :: r0.drop 1)).map tI) := fun {H5} b5 nt5 => by
      obtain ⟨ys, y1, y2⟩ := hl4
      exact ⟨ys, b5 _ _ hlp y1, y2.tx (b5.tx f3.noTup)⟩
    refine q_retF (K := K) (ef_tup3 (d1 := nI wide) (d2 := tII (rows.set 0 (0 :: r0.drop 1))) (fun H5 b5 nt5 => ed_var rfl (.int _)) (fun H5 b5 nt5 => ed_tupLs (vv_var rfl) (hL b5 nt5)) hcomp) f3 (by omega) fun v H5 n5 d b5 f5 h5 h5' hv5 ho5 => ?_
    obtain ⟨d3, rfl, ds3, rfl, hds3⟩ := ho5
    obtain ⟨ns, rfl, hnl, hnb⟩ := f2_nums hds3
    rw [List.length_map, List.length_range] at hnl
    refine k ⟨wide, rows.set 0 (0 :: r0.drop 1), ns⟩ v H5 n5 (b1.trans (b24.trans b5)) f5 (by omega) (by omega) ⟨⟨hw0, by simp; omega, fun r hr => ?_, fun r hr y hy => ?_, by simp [hnl, hrl]⟩, ?_⟩ rfl (by simp; omega) hnb hv5
    · rcases set_mem hr with rfl | hr
      · simp; omega
      · exact hrw r hr
    · show y < (rows.set 0 (0 :: r0.drop 1)).length
      rw [List.length_set, hrl]
      rcases set_mem hr with rfl | hr
      · rcases List.mem_cons.mp hy with rfl | hy
        · omega
        · exact hrb r0 hr0m y (List.mem_of_mem_drop hy)
      · exact hrb r hr y hy
    · have : (rows.set 0 (0 :: r0.drop 1))[0]? = some (0 :: r0.drop 1) := by
        rw [List.getElem?_set, if_pos rfl, if_pos (by omega)]
      unfold Rd.row
      rw [getD_some this]; rfl
end
end K63
/-! K63Work1: digits_in, shown_by, made_of. -/
namespace K63
open PySem PySem.Spec PyProof.Rows L2 RZ
theorem low_len {b : Nat} (hb : 2 ≤ b) : ∀ (k n : Nat), n < 2 ^ k → (low b n).length ≤ k
  | 0, n, h => by have : n = 0 := by omega
                  subst this; simp [low_zero]
  | k + 1, n, h => by
    by_cases e : n = 0
    · subst e; simp [low_zero]
    · rw [low_step hb (by omega), List.length_cons]
      have h1 : n / b < 2 ^ k := by
        refine Nat.lt_of_le_of_lt (Nat.div_le_div_left hb (by omega)) ?_
        rw [Nat.div_lt_iff_lt_mul (by omega)]
        rw [Nat.pow_succ] at h
        exact h
      have := low_len hb k (n / b) h1
      omega
def pDigits (ds rs : List PyData) : Prop := ∃ b n : Nat, ds = [nI b, nI n] ∧ 2 ≤ b ∧ b < 1000 ∧ n < 2 ^ 1000 ∧ rs = (low b n).reverse.map nI
def pShown (ds : List PyData) (r : PyData) : Prop := ∃ (R : Rd) (n : Nat), ds = [tR R, nI n] ∧ R.Ok ∧ Small R ∧ n < 2 ^ 1000 ∧ r = nI (numRead R n)
def spMade (K : PySem.W.Frag) : Sp := fun vs H Q _ => ∃ (b : Nat) (pr ps : Addr) (dss : List (List PyData)) (sh : List PyData), vs = [vN b, .ref pr, .ref ps] ∧ LLs K H pr dss ∧ Ls K H ps sh ∧ dss.length ≤ 40000 ∧ RetD K (.tuple [nI b, .tuple (dss.map .tuple), .tuple sh]) H Q
section
variable {P : Program} {w : World} {K : PySem.W.Frag} {mg : Str → Option Value} {base : Heap}
theorem ed_made {σ : L2.St} {H : Hp} {ta tr ts : TE} {b : Nat} {pr : Addr} {dss : List (List PyData)} {sh : List PyData} (hb : EvD K ta σ H (nI b)) (hr : EvV tr σ H (.ref pr)) (hL : LLs K H pr dss) (hs : EvL K ts σ H sh) (hz : dss.length ≤ 40000) :
    EvD K (tCall (spMade K) [] E0 (tCons ta (tCons tr (tCons ts tNil)))) σ H (.tuple [nI b, .tuple (dss.map .tuple), .tuple sh]) := fun H1 e Q q =>
  hb H1 e _ fun v H2 e2 hv => hr H2 (e.trans e2) _ fun H3 e3 => hs H3 ((e.trans e2).trans e3) _ fun ps us H4 hp e4 h4 hd =>
    ⟨b, pr, ps, dss, sh, by rw [hv.inv_int]; rfl, hL.to (((e.trans e2).trans e3).trans e4), ⟨us, h4, hd⟩, hz, fun r H5 e5 hr => q r H5 (((e2.trans e3).trans e4).trans e5) hr⟩
abbrev s_digits_in : Stmt := topS 17
theorem sc_digits_in : FnScope ["base", "number", "found", "rest"] ["base", "number"] (defScope s_digits_in) := ⟨rfl, rfl, rfl, by decide +kernel, rfl, by decide +kernel, by decide +kernel⟩
-- 0 base, 1 number, 2 found, 3 rest
theorem ok_digits_in (B : Bn mg) {f : Addr} {fd : FuncData} (F : Fun K "digits_in" "digits_in" s_digits_in f fd) : FnOk P w K mg base CX0 1 f fd ["base", "number"] (spL K pDigits) := by
  refine F.ok sc_digits_in (fun vs H Q E h => spL_len (n := 2) (fun ds r p => by obtain ⟨i, m, rfl, _⟩ := p; rfl) h) (fun cdv A outer s H vs Q E hr h => ?_)
  obtain ⟨ds, rs, hd, ⟨b, n, rfl, hb, hb2, hn, rfl⟩, k⟩ := h
  obtain ⟨v, u, rfl, hv, hu⟩ := hd.inv2
  cases hv.inv_int
  cases hu.inv_int
  refine ⟨_, (pss_cons (ps_par (i := 2) (j := 3) rfl sc_digits_in.nd rfl rfl (by decide) rfl rfl (pa_cons (pe_lst pa_nil) (pa_cons (pv 1) pa_nil)) (by rfl))
      (pss_cons (ps_while PassesOwn.never (pt_cmpR op_gt (pv 3) pe_int (nomark _))
      (pss_cons (ps_expr (k_bm K PySem.F.plainAttrs_list PySem.F.slot_list_append PySem.F.type_list_append mt_append (pv 2) (pa_cons (pe_op op_mod (pe_callTy cb_int (by rfl) B.int boot_int (pa_cons (pv 3) pa_nil)) (pv 0)) pa_nil)))
      (pss_one (ps_set (i := 3) sc_digits_in.nd rfl (Or.inl rfl) (pe_op op_fdiv (pv 3) (pv 0))))))
      (pss_one (ps_ret (k_revL K (pv 2)))))), ?_⟩
  refine ⟨Nat.zero_le _, fun p hp => ⟨_, rfl, _, _, rfl, ?_⟩⟩
  have hlen := low_len hb 1000 n hn
  refine q_while (fun m σ' H' => ∃ (found : List Nat), σ' = [some (vN b), some (vN n), some (.ref p), some (vN m)] ∧ Same H H' ∧ Ls K H' p (found.map nI) ∧ found ++ low b m = low b n) n ⟨[], rfl, Same.new hp, ⟨[], upd_same, .nil⟩, by simp⟩ fun m σ' H' hw => ?_
  obtain ⟨found, rfl, e1, hl, hf⟩ := hw
  refine ⟨decide (0 < m), et_test (K := K) (ed_gtN (b := 0) (ed_var rfl (.int _)) ed_int), fun hm H1 e2 => ?_, fun hm H1 e2 => ?_⟩
  · have hm := of_decide_eq_true hm
    have hfl : found.length < 100000 := by
      have := congrArg List.length hf
      rw [List.length_append] at this
      omega
    refine q_app (hl.to e2) (vv_var rfl) (ed_modN (ed_toInt (ed_var rfl (.int _))) (ed_var rfl (.int _)) (by omega)) (by simpa using hfl) fun H2 o e3 nt hl2 => ?_
    have hd : m / b < m := Nat.div_lt_self hm hb
    refine s_N (K := K) (ed_fdivN (ed_var rfl (.int _)) (ed_var rfl (.int _)) (by omega) (by omega)) fun H3 e4 => ⟨m / b, hd, found ++ [m % b], rfl, ?_, ?_, ?_⟩
    · exact (Same.mut ((e1.trans e2).trans e3) hp).trans e4
    · rw [List.map_append]
      exact hl2.to e4
    · rw [List.append_assoc, List.singleton_append, ← low_step hb hm]
      exact hf
  · have hm := of_decide_eq_false hm
    have hm0 : m = 0 := by omega
    subst hm0
    rw [low_zero, List.append_nil] at hf
    subst hf
    refine q_retL' ((el_rev (vv_var rfl) (hl.to e2)).is (by rw [List.map_reverse])) fun q vs H2 hq e3 h3 hd => k q vs H2 ((e1.trans e2).free hq) ((e1.trans e2).trans e3) h3 hd
abbrev s_shown_by : Stmt := topS 18
theorem sc_shown_by : FnScope ["reader", "number", "here", "digit"] ["reader", "number"] (defScope s_shown_by) := ⟨rfl, rfl, rfl, by decide +kernel, rfl, by decide +kernel, by decide +kernel⟩
-- 0 reader, 1 number, 2 here, 3 digit
theorem ok_shown_by (B : Bn mg) (c_digits_in : Cal P w K mg base "digits_in" 1 ["base", "number"] [] (spL K pDigits)) {f : Addr} {fd : FuncData} (F : Fun K "shown_by" "shown_by" s_shown_by f fd) : FnOk P w K mg base CX0 2 f fd ["reader", "number"] (spD K pShown) := by
  refine F.ok sc_shown_by (fun vs H Q E h => spD_len (n := 2) (fun ds r p => by obtain ⟨i, m, rfl, _⟩ := p; rfl) h) (fun cdv A outer s H vs Q E hr h => ?_)
  obtain ⟨ds, rs, hd, ⟨R, n, rfl, ok, sm, hn, rfl⟩, k⟩ := h
  obtain ⟨v, u, rfl, hv, hu⟩ := hd.inv2
  refine ⟨_, (pss_cons (ps_set (i := 2) sc_shown_by.nd rfl (Or.inl rfl) pe_int)
      (pss_cons (ps_for PassesOwn.never rfl (k_pil K (pe_callC c_digits_in (hr.mono (by decide)) (by rfl) (pa_cons (pe_ix (k_ixT K) (pv 0) pe_int (fun _ _ => rfl)) (pa_cons (pv 1) pa_nil)))) (pg_name (i := 3) sc_shown_by.nd rfl (Or.inl rfl))
      (pss_one (ps_set (i := 2) sc_shown_by.nd rfl (Or.inl rfl) (pe_ix (k_ixT K) (pe_ix (k_ixT K) (pe_ix (k_ixT K) (pv 0) pe_int (fun _ _ => rfl)) (pv 2) (fun _ _ => rfl)) (pv 3) (fun _ _ => rfl)))))
      (pss_one (ps_ret (pe_ix (k_ixT K) (pe_ix (k_ixT K) (pv 0) pe_int (fun _ _ => rfl)) (pv 2) (fun _ _ => rfl)))))), ?_⟩
  have hb := ok.base
  have hb2 := sm.b
  refine q_N (K := K) (n := 0) ed_int fun H1 e1 => ?_
  have hdw : ∀ j, DW R.b ((low R.b n).reverse.take j) := fun j x hx => low_lt hb n x (by simpa using List.mem_of_mem_take hx)
  have hin : ∀ j, R.mac.goes 0 ((low R.b n).reverse.take j) < R.mv.length := fun j => ok.goes_in _ ok.pos (hdw j)
  refine q_forN (K := K) (el_call (ea_cons (ed_ixT (k := 0) (ed_var rfl (hv.to e1)) ed_int rfl) (ea_one (ed_var rfl (hu.to e1)))) ⟨R.b, n, rfl, hb, by omega, hn, rfl⟩)
    (fun H2 i σ' H' => ∃ x, σ' = [some v, some u, some (vN (R.mac.goes 0 ((low R.b n).reverse.take i))), x] ∧ Same H2 H') (fun H2 e2 => ⟨none, rfl, Same.refl _⟩) (fun H2 i σ' H' h => let ⟨_, _, e⟩ := h; e)
    (fun H2 e2 i d x σ' H' hd hx hP => ?_) fun H2 e2 σ' H' hP => ?_
  · obtain ⟨y, rfl, e3⟩ := hP
    have e03 := (e1.trans e2).trans e3
    rw [List.getElem?_map] at hd
    cases ei : (low R.b n).reverse[i]? with
    | none => rw [ei] at hd; cases hd
    | some z =>
      rw [ei] at hd
      obtain rfl : nI z = d := Option.some.inj hd
      obtain ⟨row, hrow⟩ := get_of_lt (hin i)
      have hrow' : R.row (R.mac.goes 0 ((low R.b n).reverse.take i)) = row := getD_some hrow
      have hzb : z < R.b := low_lt hb n z (by simpa using List.mem_of_getElem? ei)
      have hlen := ok.row_len (hin i)
      rw [hrow'] at hlen
      obtain ⟨t, ht⟩ := get_of_lt (l := row) (i := z) (by omega)
      refine s_N (K := K) (ed_ixI (ed_ixII (ed_ixT (k := 1) (ed_var rfl (hv.to e03)) ed_int rfl) (ed_var rfl (.int _)) hrow) (ed_var rfl hx) ht) fun H3 e4 => ⟨some x, ?_, e3.trans e4⟩
      have : R.mac.goes 0 ((low R.b n).reverse.take (i + 1)) = t := by
        rw [List.take_add_one, ei]
        show R.mac.goes 0 (_ ++ [z]) = t
        rw [Mac.goes_append]
        show (R.row (R.mac.goes 0 ((low R.b n).reverse.take i))).getD z 0 = t
        rw [hrow']; exact getD_some ht
      rw [this]; rfl
  · obtain ⟨y, rfl, e3⟩ := hP
    have e03 := (e1.trans e2).trans e3
    have hfull : (low R.b n).reverse.take ((low R.b n).reverse.map nI).length = (low R.b n).reverse := by
      rw [List.length_map]; exact List.take_length
    rw [hfull]
    have hlt := hin ((low R.b n).reverse.map nI).length
    rw [hfull] at hlt
    obtain ⟨t, ht⟩ := get_of_lt (l := R.sh) (i := R.mac.goes 0 (low R.b n).reverse) (by rw [ok.shl]; exact hlt)
    refine q_ret' (ed_ixI (ed_ixT (k := 2) (ed_var rfl (hv.to e03)) ed_int rfl) (ed_var rfl (.int _)) ht) fun x H3 e4 hx => k x H3 (e03.trans e4) ?_
    have : numRead R n = t := getD_some ht
    rw [this]; exact hx
abbrev s_made_of : Stmt := topS 20
theorem sc_made_of : FnScope ["base", "rows", "shows", "row"] ["base", "rows", "shows"] (defScope s_made_of) := ⟨rfl, rfl, rfl, by decide +kernel, rfl, by decide +kernel, by decide +kernel⟩
-- 0 base, 1 rows, 2 shows, 3 row
theorem ok_made_of (B : Bn mg) {f : Addr} {fd : FuncData} (F : Fun K "made_of" "made_of" s_made_of f fd) : FnOk P w K mg base CX0 1 f fd ["base", "rows", "shows"] (spMade K) := by
  refine F.ok sc_made_of (fun vs H Q E h => by obtain ⟨b, pr, ps, dss, sh, rfl, _⟩ := h; rfl) (fun cdv A outer s H vs Q E hr h => ?_)
  obtain ⟨b, pr, ps, dss, sh, rfl, hL, hS, hz, k⟩ := h
  refine ⟨_, (pss_one (ps_ret (pe_tup (pa_cons (pv 0) (pa_cons (pe_callTy (k_tup K) (by rfl) B.tuple boot_tuple (pa_cons (pe_lc (own := [("row", 3)]) rfl sc_made_of.nd (k_pil K (pv 1)) (blkOk_by (by kernel_rfl)) (fun _ _ _ _ _ => (pg_name (i := 3) sc_made_of.nd rfl (Or.inl rfl))) (fun _ _ _ _ _ => pts_nil) (fun _ _ _ _ _ => (pe_callTy (k_tup K) (by rfl) B.tuple boot_tuple (pa_cons (pv 3) pa_nil)))) pa_nil)) (pa_cons (pe_callTy (k_tup K) (by rfl) B.tuple boot_tuple (pa_cons (pv 2) pa_nil)) pa_nil)))))), ?_⟩
  exact q_ret' (ed_tup (ea_cons (ed_var rfl (.int _)) (ea_cons (ed_tupL (el_rows (src_LL (vv_var rfl) hL) hz (fun _ => rfl) (fun _ => rfl))) (ea_one (ed_tupLs (vv_var rfl) hS)))) (Nat.le_of_ble_eq_true rfl)) k
end
end K63
/-! K63Work2: trimmed. -/
namespace K63
open PySem PySem.Spec PyProof.Rows L2 RZ
def pTrim (ds : List PyData) (r : PyData) : Prop := ∃ R : Rd, ds = [tR R] ∧ R.Ok ∧ Small R ∧ r = tR R.trim
/-- the rows made so far -/
def rowsK (R : Rd) (k : Nat) : List (List PyData) := (R.o.take k).map fun p => ((R.row p).map fun x => R.o.idxOf x).map nI
theorem rowsK_len {R : Rd} {k : Nat} (h : k ≤ R.o.length) : (rowsK R k).length = k := by simp [rowsK, h]
theorem rowsK_succ {R : Rd} {k p : Nat} (h : R.o[k]? = some p) : rowsK R (k + 1) = rowsK R k ++ [((R.row p).map fun x => R.o.idxOf x).map nI] := by
  unfold rowsK
  rw [List.take_add_one, h]; simp
theorem rows_tR {R : Rd} : PyData.tuple [nI R.b, .tuple ((rowsK R R.o.length).map .tuple), .tuple ((R.o.map R.show).map nI)] = tR R.trim := by
  unfold rowsK
  rw [List.take_length]
  simp [tR, Rd.trim, Mac.trim, tII, tI, Rd.mac, List.map_map, Function.comp_def, Rd.o]
structure TrIn (K : PySem.W.Frag) (H : Hp) (p d q : Addr) (R : Rd) (k : Nat) (o : List Nat) : Prop where
  ne : p ≠ q
  ol : Ls K H p (o.map nI)
  dd : ∃ kvs, H d = some (.dK kvs) ∧ Spots kvs o
  rl : ∃ xs, H q = some (.lst xs) ∧ V.ref p ∉ xs ∧ LLs K H q (rowsK R k)
section
variable {P : Program} {w : World} {K : PySem.W.Frag} {mg : Str → Option Value} {base : Heap} {H H' : Hp} {p d q : Addr} {R : Rd} {k : Nat} {o : List Nat}
theorem TrIn.to (h : TrIn K H p d q R k o) (e : Same H H') : TrIn K H' p d q R k o :=
  ⟨h.ne, h.ol.to e, let ⟨kvs, a, b⟩ := h.dd; ⟨kvs, e _ _ a, b⟩, let ⟨xs, a, b, c⟩ := h.rl; ⟨xs, e _ _ a, b, c.to e⟩⟩
theorem TrIn.pd (h : TrIn K H p d q R k o) : p ≠ d := fun z => by
  obtain ⟨kvs, a, _⟩ := h.dd
  obtain ⟨vs, b, _⟩ := h.ol
  rw [z, a] at b; cases b
theorem TrIn.qd (h : TrIn K H p d q R k o) : q ≠ d := fun z => by
  obtain ⟨kvs, a, _⟩ := h.dd
  obtain ⟨vs, b, _⟩ := h.rl
  rw [z, a] at b; cases b
/-- a name is put into the dict -/
theorem TrIn.putD {o' : HO} (h : TrIn K H p d q R k o) : Ls K (upd H d o') p (o.map nI) ∧ ∃ xs, upd H d o' q = some (.lst xs) ∧ V.ref p ∉ xs ∧ LLs K (upd H d o') q (rowsK R k) := by
  obtain ⟨kvs, a, _⟩ := h.dd
  refine ⟨h.ol.other (.dK a) (Ne.symm h.pd), ?_⟩
  obtain ⟨xs, b, c, e⟩ := h.rl
  refine ⟨xs, by rw [upd_ne h.qd]; exact b, c, e.put (.dK a) (Ne.symm h.qd) fun q' ds l z => ?_⟩
  obtain ⟨us, c1, _⟩ := l
  rw [z, a] at c1; cases c1
abbrev s_trimmed : Stmt := topS 21
theorem sc_trimmed : FnScope ["reader", "base", "moves", "shows", "order", "spots", "rows", "late", "place"] ["reader"] (defScope s_trimmed) := ⟨rfl, rfl, rfl, by decide +kernel, rfl, by decide +kernel, by decide +kernel⟩
-- 0 reader, 1 base, 2 moves, 3 shows, 4 order, 5 spots, 6 rows, 7 late, 8 place
theorem ok_trimmed (B : Bn mg) (c_made_of : Cal P w K mg base "made_of" 1 ["base", "rows", "shows"] [] (spMade K)) {f : Addr} {fd : FuncData} (F : Fun K "trimmed" "trimmed" s_trimmed f fd) : FnOk P w K mg base CX0 2 f fd ["reader"] (spD K pTrim) := by
  refine F.ok sc_trimmed (fun vs H Q E h => spD_len (n := 1) (fun ds r p => by obtain ⟨R, rfl, _⟩ := p; rfl) h) (fun cdv A outer s H vs Q E hr h => ?_)
  obtain ⟨ds, r, hd, ⟨R, rfl, ok, sm, rfl⟩, kk⟩ := h
  obtain ⟨v, rfl, hv⟩ := hd.inv1
  have hu := room_u hr
  refine ⟨_, (pss_cons (ps_asg (pv 0) (k_pgt K rfl (pgs_cons (pg_name (i := 1) sc_trimmed.nd rfl (Or.inl rfl)) (pgs_cons (pg_name (i := 2) sc_trimmed.nd rfl (Or.inl rfl)) (pgs_cons (pg_name (i := 3) sc_trimmed.nd rfl (Or.inr rfl)) pgs_nil)))))
      (pss_cons (ps_asg (pe_tup (pa_cons (pe_lst (pa_cons pe_int pa_nil)) (pa_cons (pe_disp (pps_cons pe_int pe_int pps_nil) (by rfl) (by rfl) (fun z => by cases z) (by decide)) pa_nil))) (k_pgt K rfl (pgs_cons (pg_name (i := 4) sc_trimmed.nd rfl (Or.inl rfl)) (pgs_cons (pg_name (i := 5) sc_trimmed.nd rfl (Or.inr rfl)) pgs_nil))))
      (pss_cons (ps_set (i := 6) sc_trimmed.nd rfl (Or.inl rfl) (pe_lst pa_nil))
      (pss_cons (ps_while PassesOwn.never (pt_cmpR op_lt (pe_callB (k_len K) (by rfl) B.len PySem.boot_len (pa_cons (pv 6) pa_nil)) (pe_callB (k_len K) (by rfl) B.len PySem.boot_len (pa_cons (pv 4) pa_nil)) (nomark _))
      (pss_cons (ps_for PassesOwn.never rfl (k_pit K (pe_ix (k_ixT K) (pv 2) (pe_ix (k_ixL K) (pv 4) (pe_callB (k_len K) (by rfl) B.len PySem.boot_len (pa_cons (pv 6) pa_nil)) (fun _ _ => rfl)) (fun _ _ => rfl))) (pg_name (i := 7) sc_trimmed.nd rfl (Or.inl rfl))
      (pss_one (ps_if (pt_cmp (pc_dnotin hu (pv 7) (pv 5))) (pss_cons (ps_dput hu (pv 5) (pv 7) (pe_callB (k_len K) (by rfl) B.len PySem.boot_len (pa_cons (pv 4) pa_nil)) rfl)
      (pss_one (ps_expr (k_bm K PySem.F.plainAttrs_list PySem.F.slot_list_append PySem.F.type_list_append mt_append (pv 4) (pa_cons (pv 7) pa_nil))))) pss_nil)))
      (pss_one (ps_expr (k_bm K PySem.F.plainAttrs_list PySem.F.slot_list_append PySem.F.type_list_append mt_append (pv 6) (pa_cons (pe_lc (own := [("late", 7)]) rfl sc_trimmed.nd (k_pit K (pe_ix (k_ixT K) (pv 2) (pe_ix (k_ixL K) (pv 4) (pe_callB (k_len K) (by rfl) B.len PySem.boot_len (pa_cons (pv 6) pa_nil)) (fun _ _ => rfl)) (fun _ _ => rfl))) (blkOk_by (by kernel_rfl)) (fun _ _ _ _ _ => (pg_name (i := 7) sc_trimmed.nd rfl (Or.inl rfl))) (fun _ _ _ _ _ => pts_nil) (fun _ _ _ _ _ => (pe_dget hu (pv 5) (pv 7) (fun _ _ => rfl)))) pa_nil))))))
      (pss_one (ps_ret (pe_callC c_made_of (hr.mono (by decide)) (by rfl) (pa_cons (pv 1) (pa_cons (pv 6) (pa_cons (pe_lc (own := [("place", 8)]) rfl sc_trimmed.nd (k_pil K (pv 4)) (blkOk_by (by kernel_rfl)) (fun _ _ _ _ _ => (pg_name (i := 8) sc_trimmed.nd rfl (Or.inl rfl))) (fun _ _ _ _ _ => pts_nil) (fun _ _ _ _ _ => (pe_ix (k_ixT K) (pv 3) (pv 8) (fun _ _ => rfl)))) pa_nil)))))))))), ?_⟩
  have hn := sm.n
  have hb := sm.b
  refine q_un3 (K := K) (ed_var rfl hv) fun v1 v2 v3 H1 e1 h1 h2 h3 => ?_
  refine ⟨Evl.sz_of (by simp), fun p hp p' hp' => ?_⟩
  refine ⟨upd_same, [(.inl 0, .int 0)], rfl, by decide, Evl.sz_of (by simp), fun t ht => ⟨t, _, rfl, .of upd_same, rfl, _, _, rfl, _, _, rfl, rfl, ?_⟩⟩
  have sa : Same (upd H1 p (.lst [.int 0])) (upd (upd (upd H1 p (.lst [.int 0])) p' (.dK [])) p' (.dK (mergeK [] [(.inl 0, .int 0)]))) := Same.mut (Same.new hp') hp'
  have sc := sa.trans (Same.new (o := .tup [.ref p, .ref p']) ht)
  have g1 : upd (upd (upd (upd H1 p (.lst [.int 0])) p' (.dK [])) p' (.dK (mergeK [] [(.inl 0, .int 0)]))) t (.tup [.ref p, .ref p']) p = some (.lst [.int 0]) := sc _ _ upd_same
  have g2 : upd (upd (upd (upd H1 p (.lst [.int 0])) p' (.dK [])) p' (.dK (mergeK [] [(.inl 0, .int 0)]))) t (.tup [.ref p, .ref p']) p' = some (.dK (mergeK [] [(.inl 0, .int 0)])) := (Same.new ht) _ _ upd_same
  have e2 := (Same.new hp).trans sc
  revert g1 g2 e2
  generalize upd (upd (upd (upd H1 p (.lst [.int 0])) p' (.dK [])) p' (.dK (mergeK [] [(.inl 0, .int 0)]))) t (.tup [.ref p, .ref p']) = H2
  intro g1 g2 e2
  refine q_L (K := K) (el_lst ea_nil) fun q vs H3 hq e3 h3 hd3 => ?_
  cases hd3
  have pH : H p = none := e1.free hp
  have dH : H p' = none := e1.free ((Same.new hp).free hp')
  have qH : H q = none := ((e1.trans e2).free hq)
  have pq : p ≠ q := fun z => by rw [← z, g1] at hq; cases hq
  have i0 : TrIn K H3 p p' q R 0 (ordAt id R.row 0 0) := by
    refine ⟨pq, (show Ls K H2 p ([0].map nI) from Ls.of_ints g1).to e3, ⟨_, e3 _ _ g2, ?_⟩, [], h3, by simp, LLs.nil h3⟩
    refine ⟨rfl, fun x => ?_⟩
    show valV [(Sum.inl 0, V.int 0)] _ = if x ∈ [0] then some (vN ([0].idxOf x)) else none
    by_cases ex : x = 0
    · subst ex; rfl
    · rw [valV_neg (by intro z; injection z with z; exact ex (by simpa using z.symm)), valV_nil, if_neg (by simpa using ex)]
  have h1' := h1.to (e2.trans e3)
  have h2' := h2.to (e2.trans e3)
  have h3' := h3
  have hord : ∀ k, ∀ x ∈ ordAt id R.row 0 k, x < R.mv.length := fun k => ordAt_all id R.row 0 (fun p => p < R.mv.length) ok.pos (fun p hp x hx => ok.row_lt hp x hx) k
  have hlen : ∀ k, (ordAt id R.row 0 k).length ≤ R.mv.length := fun k => length_le_of_lt (by have := ordAt_nodup id R.row 0 k; simpa using this) (hord k)
  have e03 := (e1.trans e2).trans e3
  refine q_while (fun m σ' H' => ∃ (k : Nat) (y : Option V), σ' = [some v, some v1, some v2, some v3, some (.ref p), some (.ref p'), some (.ref q), y, none] ∧ Same H H' ∧ Di K H' v1 (nI R.b) ∧ Di K H' v2 (tII R.mv) ∧ Di K H' v3 (tI R.sh) ∧
      TrIn K H' p p' q R k (ordAt id R.row 0 k) ∧ k ≤ (ordAt id R.row 0 k).length ∧ m = R.mv.length - k) R.mv.length
    ⟨0, none, rfl, e03, h1', h2', (show Di K H3 v3 (tI R.sh) from ‹Di K H1 v3 (tI R.sh)›.to (e2.trans e3)), i0, Nat.zero_le _, by omega⟩ fun m σ' H' hw => ?_
  obtain ⟨k, y, rfl, eH, d1, d2, d3, inv, hk, rfl⟩ := hw
  obtain ⟨xs, hx, hpx, hL⟩ := inv.rl
  have hkn : k ≤ R.mv.length := Nat.le_trans hk (hlen k)
  have hpre : ordAt id R.row 0 k <+: R.o := ordAt_prefix id R.row 0 hkn
  have hkO : k ≤ R.o.length := Nat.le_trans hk hpre.length_le
  refine ⟨decide (k < (ordAt id R.row 0 k).length), et_test (K := K) ((ed_ltN (ed_lenLL (vv_var rfl) hL) (ed_lenLI (vv_var rfl) inv.ol)).is (by rw [rowsK_len hkO])), fun hm H4 e4 => ?_, fun hm H4 e4 => ?_⟩
  · have hm := of_decide_eq_true hm
    obtain ⟨pl, hpl⟩ := get_of_lt hm
    have hpll := hord k pl (List.mem_of_getElem? hpl)
    obtain ⟨r, hr0⟩ := get_of_lt hpll
    have hrow : R.row pl = r := getD_some hr0
    have hOpl : R.o[k]? = some pl := prefix_get hpre hpl
    have hkn2 : k + 1 ≤ R.mv.length := Nat.lt_of_lt_of_le hm (hlen k)
    have hord1 : ordAt id R.row 0 (k + 1) = expand id (ordAt id R.row 0 k) r := by rw [ordAt_succ, hpl, ← hrow]
    have hrl : r.length = R.b := by rw [← hrow]; exact ok.row_len hpll
    have hexl : ∀ i, (expand id (ordAt id R.row 0 k) (r.take i)).length ≤ 60 := fun i => by
      refine Nat.le_trans (length_le_of_lt (n := R.mv.length) (by have := ordAt_nodup id R.row 0 k; have := expand_nodup id (r := r.take i) this; simpa using this) fun x hx => ?_) hn
      rcases expand_sub id hx with hx | hx
      · exact hord k x hx
      · exact ok.row_lt hpll x (by rw [hrow]; exact List.mem_of_mem_take hx)
    refine q_forT (K := K) (ed_ixII (ed_var rfl (d2.to e4)) (ed_ixLI (vv_var rfl) (inv.ol.to e4) (ed_lenLL (vv_var rfl) (hL.to e4)) (by rw [rowsK_len hkO]; exact hpl)) hr0)
      (fun H5 i σ' H'' => ∃ y, σ' = [some v, some v1, some v2, some v3, some (.ref p), some (.ref p'), some (.ref q), y, none] ∧ Same H H'' ∧ Tx H5 H'' ∧ TrIn K H'' p p' q R k (expand id (ordAt id R.row 0 k) (r.take i)))
      (fun H5 e5 => ⟨y, rfl, (eH.trans e4).trans e5, Tx.refl _, (inv.to e4).to e5⟩) (fun H5 i σ' H' h => let ⟨_, _, _, e, _⟩ := h; e)
      (fun H5 e5 i d x σ' H6 hd hx6 hP => ?_) fun H5 e5 σ' H6 hP => ?_
    · obtain ⟨y6, rfl, e06, t6, inv6⟩ := hP
      rw [List.getElem?_map] at hd
      cases ei : r[i]? with
      | none => rw [ei] at hd; cases hd
      | some z =>
        rw [ei] at hd
        obtain rfl : nI z = d := Option.some.inj hd
        obtain ⟨kvs, hkv, hsp⟩ := inv6.dd
        have hsn : expand id (ordAt id R.row 0 k) (r.take (i + 1)) = addNew id (expand id (ordAt id R.row 0 k) (r.take i)) z := by
          rw [List.take_add_one, ei, ← expand_snoc]; rfl
        have hol := hexl i
        refine s_if (et_B (K := K) (ed_dnotin (ed_var rfl hx6) (vv_var rfl) hkv)) (fun hz H7 e7 => ?_) fun hz H7 e7 => ?_
        · have hnew : z ∉ expand id (ordAt id R.row 0 k) (r.take i) := fun z6 => by
            have := hsp.2 z
            rw [if_pos z6] at this
            rw [this] at hz; simp at hz
          have inv7 := inv6.to e7
          refine q_dput (K := K) (ed_lenLI (vv_var rfl) inv7.ol) (vv_var rfl) (ed_var rfl (hx6.to e7)) (e7 _ _ hkv) (by rw [hsp.1]; omega) fun H8 e8 => ?_
          have inv8 := inv7.to e8
          obtain ⟨w1, xs8, w2, w3, w4⟩ := inv8.putD (o' := .dK (putK kvs (.inl (z : Int)) (vN (expand id (ordAt id R.row 0 k) (r.take i)).length)))
          have t8 : Tx H8 (upd H8 p' (.dK (putK kvs (.inl (z : Int)) (vN (expand id (ordAt id R.row 0 k) (r.take i)).length)))) := .upd (.dK ((e7.trans e8) _ _ hkv))
          refine s_app (d := nI z) w1 (vv_var rfl) (ed_var rfl (((hx6.to e7).to e8).tx t8)) (by rw [List.length_map]; omega) fun H9 o9 e9 nt9 hl9 => ?_
          refine ⟨_, rfl, ?_, ?_, ?_⟩
          · exact Same.mut ((Same.mut ((e06.trans e7).trans e8) dH).trans e9) pH
          · exact ((((t6.trans (Same.tx e7)).trans (Same.tx e8)).trans t8).trans (Same.tx e9)).trans (.upd nt9)
          · rw [hsn]
            unfold addNew
            rw [if_neg (by simpa using hnew)]
            refine ⟨pq, by rw [List.map_append]; exact hl9, ⟨putK kvs (.inl (z : Int)) (vN (expand id (ordAt id R.row 0 k) (r.take i)).length), ?_, spots_put hsp hnew⟩, xs8, ?_, w3, (w4.to e9).other (e9 _ _ w2) nt9 pq w3⟩
            · rw [upd_ne (Ne.symm inv8.pd)]; exact e9 _ _ upd_same
            · rw [upd_ne (Ne.symm pq)]; exact e9 _ _ w2
        · have hold : z ∈ expand id (ordAt id R.row 0 k) (r.take i) := Classical.byContradiction fun z6 => by
            have := hsp.2 z
            rw [if_neg z6] at this
            rw [this] at hz; simp at hz
          refine ⟨_, rfl, e06.trans e7, t6.trans (Same.tx e7), ?_⟩
          rw [hsn]
          unfold addNew
          rw [if_pos (by simpa using hold)]
          exact inv6.to e7
    · obtain ⟨y6, rfl, e06, t6, inv6⟩ := hP
      have hfull : r.take (r.map nI).length = r := by rw [List.length_map]; exact List.take_length
      rw [show List.map nI r = r.map nI from rfl, hfull, ← hord1] at inv6
      have e45 := e4.trans e5
      have c1 := (d1.to e45).tx t6
      have c2 := (d2.to e45).tx t6
      have c3 := (d3.to e45).tx t6
      obtain ⟨xs6, hx6, hpx6, hL6⟩ := inv6.rl
      obtain ⟨kvs, hkv, hsp⟩ := inv6.dd
      have hpre1 : ordAt id R.row 0 (k + 1) <+: R.o := ordAt_prefix id R.row 0 hkn2
      have hpl1 : (ordAt id R.row 0 (k + 1))[k]? = some pl := prefix_get (ordAt_prefix1 id R.row 0 k) hpl
      refine s_appLX (K := K) (ds := (r.map fun x => R.o.idxOf x).map nI) hL6 hx6 (vv_var rfl) (el_comp (src_tup (ds := r.map nI) (ed_ixII (ed_var rfl c2) (ed_ixLI (vv_var rfl) inv6.ol (ed_lenLL (vv_var rfl) hL6) (by rw [rowsK_len hkO]; exact hpl1)) hr0))
        (by simp) (by rw [List.length_map]; omega) (fun _ => rfl) fun i d rr x H7 hd hrr e7 hx7 => ?_) (by rw [rowsK_len hkO]; omega) fun H7 c hc e7 hL7 => ?_
      · rw [List.getElem?_map] at hd
        cases ei : r[i]? with
        | none => rw [ei] at hd; cases hd
        | some z =>
          rw [ei] at hd
          obtain rfl : nI z = d := Option.some.inj hd
          have : rr = nI (R.o.idxOf z) := by
            simp [ei] at hrr; exact hrr.symm
          subst this
          have hz : z ∈ ordAt id R.row 0 (k + 1) := by
            rw [hord1]
            have := (expand_mem id (r := r) (o := ordAt id R.row 0 k) (a := z)).mpr (.inr (by simpa using List.mem_of_getElem? ei))
            simpa using this
          refine ed_dget (k := (z : Int)) (v := vN (R.o.idxOf z)) (vv_var rfl) (e7 _ _ hkv) (ed_var rfl hx7) ?_ (.int _)
          rw [hsp.2 z, if_pos hz, idx_prefix hpre1 hz]
      · have nt : NoTup H7 q := .lst (e7 _ _ hx6)
        have tt : Tx H6 (upd H7 q (.lst (xs6 ++ [.ref c]))) := (Same.tx e7).trans (.upd nt)
        have inv7 := inv6.to e7
        refine ⟨_, by omega, k + 1, _, rfl, Same.mut (e06.trans e7) qH, c1.tx tt, c2.tx tt, c3.tx tt, ?_, ?_, rfl⟩
        · refine ⟨pq, inv7.ol.other nt (Ne.symm pq), ⟨kvs, by rw [upd_ne (Ne.symm inv7.qd)]; exact e7 _ _ hkv, hsp⟩, xs6 ++ [.ref c], upd_same, ?_, ?_⟩
          · intro z
            rcases List.mem_append.mp z with z | z
            · exact hpx6 z
            · simp at z
              obtain ⟨us, hu6, _⟩ := inv6.ol
              rw [z, hc] at hu6; cases hu6
          · rw [rowsK_succ hOpl, hrow]; exact hL7
        · exact Nat.le_trans hm (ordAt_prefix1 id R.row 0 k).length_le
  · have hm := of_decide_eq_false hm
    have hst := ordAt_stuck id R.row 0 (k := k) (by omega) R.mv.length hkn
    have hO : R.o = ordAt id R.row 0 k := hst
    have hkk : k = R.o.length := by rw [hO]; omega
    refine q_ret' (ed_made (dss := rowsK R k) (sh := (R.o.map R.show).map nI) (ed_var rfl (d1.to e4)) (vv_var rfl) (hL.to e4) (el_comp (src_list (vv_var rfl) (inv.ol.to e4)) (by simp [hO]) (by rw [List.length_map]; have := hlen k; omega) (fun _ => rfl) fun i d rr x H5 hd hrr e5 hx5 => ?_)
      (by rw [rowsK_len hkO]; omega)) fun x H5 e5 hx5 => kk x H5 ((eH.trans e4).trans e5) ?_
    · rw [List.getElem?_map] at hd
      cases ei : (ordAt id R.row 0 k)[i]? with
      | none => rw [ei] at hd; cases hd
      | some z =>
        rw [ei] at hd
        obtain rfl : nI z = d := Option.some.inj hd
        have hz := hord k z (List.mem_of_getElem? ei)
        obtain ⟨t, ht⟩ := get_of_lt (l := R.sh) (i := z) (by rw [ok.shl]; exact hz)
        have : rr = nI t := by
          rw [hO] at hrr
          simp [ei] at hrr
          rw [← hrr]
          show PyData.int _ = PyData.int _
          rw [show R.show z = t from getD_some ht]
        subst this
        exact ed_ixI (ed_var rfl ((d3.to e4).to e5)) (ed_var rfl hx5) ht
    · rw [← rows_tR, ← hkk]; exact hx5
end
end K63
/-! K63Work3: named_as_met, for whole numbers and for kinds. -/
namespace K63
open PySem PySem.Spec PyProof.Rows L2 RZ
section
variable {α : Type} [DecidableEq α] {xs : List α} {i : Nat} {x : α}
theorem uniq_take_old (h : xs[i]? = some x) (hx : x ∈ xs.take i) : uniq (xs.take (i + 1)) = uniq (xs.take i) := by
  rw [List.take_add_one, h]
  show uniq (xs.take i ++ [x]) = _
  rw [uniq_snoc, if_pos hx]
theorem uniq_take_new (h : xs[i]? = some x) (hx : x ∉ xs.take i) : uniq (xs.take (i + 1)) = uniq (xs.take i) ++ [x] := by
  rw [List.take_add_one, h]
  show uniq (xs.take i ++ [x]) = _
  rw [uniq_snoc, if_neg hx]
theorem uniq_take_pre (i : Nat) : uniq (xs.take i) <+: uniq xs := by
  have := uniq_prefix (xs.take i) (xs.drop i)
  rw [List.take_append_drop] at this; exact this
theorem named_old (h : xs[i]? = some x) (hx : x ∈ xs.take i) : (uniq xs).idxOf x = (uniq (xs.take i)).idxOf x := idx_prefix (uniq_take_pre i) (mem_uniq.mpr hx)
theorem named_new (h : xs[i]? = some x) (hx : x ∉ xs.take i) : (uniq xs).idxOf x = (uniq (xs.take i)).length := by
  have h1 : (uniq xs).idxOf x = (uniq (xs.take (i + 1))).idxOf x := idx_prefix (uniq_take_pre (i + 1)) (by rw [uniq_take_new h hx]; simp)
  rw [h1, uniq_take_new h hx, idx_app, if_neg (fun z => hx (mem_uniq.mp z))]
  simp
theorem named_take (h : xs[i]? = some x) : (named xs).take (i + 1) = (named xs).take i ++ [(uniq xs).idxOf x] := by
  rw [List.take_add_one, named_get h]; rfl
end
/-- a kind's data, a kind as a key -/
abbrev kd (x : Nat × List Nat) : PyData := .tuple [nI x.1, tI x.2]
def keyI (ns : List Nat) : NK := .tup (ns.map fun n : Nat => .num (n : Int))
def kkey (x : Nat × List Nat) : NK := .tup [.num (x.1 : Int), keyI x.2]
theorem datas_nums : ∀ ns : List Nat, NestedKey.datas (ns.map fun n : Nat => NestedKey.num (n : Int)) = ns.map nI
  | [] => rfl
  | n :: ns => by
    show NestedKey.data (.num (n : Int)) :: NestedKey.datas _ = _
    rw [datas_nums ns]; rfl
theorem kkey_data (x : Nat × List Nat) : (kkey x).data = kd x := by
  show PyData.tuple [PyData.int x.1, PyData.tuple (NestedKey.datas _)] = _
  rw [datas_nums]; rfl
theorem nums_inj : ∀ {ns ms : List Nat}, (ns.map fun n : Nat => NestedKey.num (n : Int)) = (ms.map fun n : Nat => NestedKey.num (n : Int)) → ns = ms
  | [], [], _ => rfl
  | [], _ :: _, h => by simp at h
  | _ :: _, [], h => by simp at h
  | n :: ns, m :: ms, h => by
    rw [List.map_cons, List.map_cons] at h
    injection h with h1 h2
    injection h1 with h1
    rw [Int.ofNat.inj h1, nums_inj h2]
theorem kkey_inj {x y : Nat × List Nat} (h : kkey x = kkey y) : x = y := by
  unfold kkey keyI at h
  injection h with h
  injection h with h1 h
  injection h with h2 _
  injection h1 with h1
  injection h2 with h2
  exact Prod.ext (Int.ofNat.inj h1) (nums_inj h2)
theorem nums_depth : ∀ ns : List Nat, NestedKey.depthAll (ns.map fun n : Nat => NestedKey.num (n : Int)) = 0
  | [] => rfl
  | n :: ns => by
    show max (NestedKey.depth (.num (n : Int))) (NestedKey.depthAll (ns.map fun n : Nat => NestedKey.num (n : Int))) = 0
    rw [nums_depth ns]; rfl
theorem kkey_depth (x : Nat × List Nat) : (kkey x).depth ≤ 8 := by
  show max 0 (max (NestedKey.depthAll (x.2.map fun n : Nat => NestedKey.num (n : Int)) + 1) 0) + 1 ≤ 8
  rw [nums_depth]; decide
def pNamI (ds : List PyData) (rs : List PyData) : Prop := ∃ xs : List Nat, ds = [tI xs] ∧ xs.length ≤ 60 ∧ rs = (named xs).map nI
def spNam (K : PySem.W.Frag) : Sp := fun vs H Q _ => ∃ (p : Addr) (xs : List (Nat × List Nat)), vs = [.ref p] ∧ Ls K H p (xs.map kd) ∧ xs.length ≤ 60 ∧ RetL K ((named xs).map nI) H Q
section
variable {P : Program} {w : World} {K : PySem.W.Frag} {mg : Str → Option Value} {base : Heap} {H H' : Hp}
abbrev s_named_as_met : Stmt := topS 22
theorem sc_named_as_met : FnScope ["things", "names", "thing"] ["things"] (defScope s_named_as_met) := ⟨rfl, rfl, rfl, by decide +kernel, rfl, by decide +kernel, by decide +kernel⟩
-- 0 things, 1 names, 2 thing
theorem ok_namedI (B : Bn mg) {f : Addr} {fd : FuncData} (F : Fun K "named_as_met" "named_as_met" s_named_as_met f fd) : FnOk P w K mg base CX0 1 f fd ["things"] (spL K pNamI) := by
  refine F.ok sc_named_as_met (fun vs H Q E h => spL_len (n := 1) (fun ds r p => by obtain ⟨R, rfl, _⟩ := p; rfl) h) (fun cdv A outer s H vs Q E hr h => ?_)
  obtain ⟨ds, r, hd, ⟨xs, rfl, hx, rfl⟩, kk⟩ := h
  obtain ⟨v, rfl, hv⟩ := hd.inv1
  have hu := room_u hr
  refine ⟨_, (pss_cons (ps_set (i := 1) sc_named_as_met.nd rfl (Or.inr rfl) pe_dnewK)
      (pss_one (ps_ret (pe_lc (own := [("thing", 2)]) rfl sc_named_as_met.nd (k_pit K (pv 0)) (blkOk_by (by kernel_rfl)) (fun _ _ _ _ _ => (pg_name (i := 2) sc_named_as_met.nd rfl (Or.inl rfl))) (fun _ _ _ _ _ => pts_nil) (fun _ _ _ _ _ => (pe_dsetd (pv 1) (pv 2) (pe_callB call_lenD (by rfl) B.len PySem.boot_len (pa_cons (pv 1) pa_nil)) ⟨by rfl, by rfl, by rfl, by rfl⟩)))))), ?_⟩
  refine fun p hp => ?_
  have s0 : Same H (upd H p (.dK [])) := Same.new hp
  obtain ⟨a, ys, rfl, h1', h2'⟩ := hv.inv_tup
  have h1 := (Same.tx s0).sq h1'
  have h2 := h2'.to s0
  refine ⟨.ref a, rfl, a, rfl, ⟨ys, h1⟩, fun D hD => ?_⟩
  have e1 : Same (upd H p (.dK [])) (upd H p (.dK [])) := Same.refl _
  have hl := h2.len
  rw [List.length_map] at hl
  have g1 : upd H p (.dK []) p = some (.dK []) := upd_same
  have pD : p ≠ D := fun z => by rw [← z, g1] at hD; cases hD
  refine lc_it walk_tup (fun i H' => Same H H' ∧ Tx (upd H p (.dK [])) H' ∧ (∃ kvs, H' p = some (.dK kvs) ∧ Spots kvs (uniq (xs.take i))) ∧ H' D = some (.lst (((named xs).take i).map vN)))
    ⟨(s0.trans e1).trans (Same.new hD), Same.tx (Same.new hD), ⟨[], by rw [upd_ne pD]; exact g1, spots_nil⟩, upd_same⟩ (fun i H' _ h => h.2.1.sq h1) (fun i x H3 H4 hi hP hY => ?_) fun H3 hP => ?_
  · obtain ⟨e3, t3, ⟨kvs, hk, hsp⟩, hD3⟩ := hP
    obtain ⟨rfl, hx4⟩ := hY
    obtain ⟨d, hd, hxd⟩ := h2.at hx4
    rw [List.getElem?_map] at hd
    cases ei : xs[i]? with
    | none => rw [ei] at hd; cases hd
    | some z =>
      rw [ei] at hd
      obtain rfl : nI z = d := Option.some.inj hd
      have hul : (uniq (xs.take i)).length ≤ 60 := Nat.le_trans (uniq_len _) (by rw [List.length_take]; omega)
      refine ⟨rfl, ?_⟩
      refine ⟨_, rfl, p, rfl, .inl ⟨kvs, .inl hk⟩, _, rfl, _, rfl, p, kvs, rfl, hk, kvs, .inl (z : Int), hk, hxd.inv_int, Evl.sz_lt (by rw [hsp.1]; omega), fun y hy => ?_, fun hn => ?_⟩
      · have hmem : z ∈ xs.take i := Classical.byContradiction fun z6 => by
          have := hsp.2 z
          rw [if_neg (fun q => z6 (mem_uniq.mp q)), hy] at this; cases this
        have hyv : y = vN ((uniq xs).idxOf z) := by
          have := hsp.2 z
          rw [if_pos (mem_uniq.mpr hmem), hy] at this
          rw [named_old ei hmem]; exact Option.some.inj this
        subst hyv
        refine ⟨_, hD3, Evl.sz_lt (by rw [List.length_map, List.length_take]; omega), Same.mut e3 ((s0.trans e1).free hD), t3.trans (.upd (.lst hD3)), ⟨kvs, by rw [upd_ne pD]; exact hk, by rw [uniq_take_old ei hmem]; exact hsp⟩, ?_⟩
        rw [named_take ei, List.map_append]; exact upd_same
      · have hmem : z ∉ xs.take i := fun z6 => by
          have := hsp.2 z
          rw [if_pos (mem_uniq.mpr z6), hn] at this; cases this
        have hyv : V.int kvs.length = vN ((uniq xs).idxOf z) := by rw [named_new ei hmem, hsp.1]
        rw [hyv]
        have hsp' := spots_put hsp (x := z) (fun q => hmem (mem_uniq.mp q))
        rw [← named_new ei hmem] at hsp'
        refine ⟨_, by rw [upd_ne (Ne.symm pD)]; exact hD3, Evl.sz_lt (by rw [List.length_map, List.length_take]; omega), Same.mut (Same.mut e3 hp) ((s0.trans e1).free hD), (t3.trans (.upd (.dK hk))).trans (.upd (.lst (by rw [upd_ne (Ne.symm pD)]; exact hD3))), ⟨_, by rw [upd_ne pD]; exact upd_same, by rw [uniq_take_new ei hmem]; exact hsp'⟩, ?_⟩
        rw [named_take ei, List.map_append]; exact upd_same
  · obtain ⟨e3, t3, _, hD3⟩ := hP
    rw [hl, ← named_length xs, List.take_length] at hD3
    exact kk D _ H3 ((s0.trans e1).free hD) e3 hD3 (diAll_of_ints _)
/-- the place, by the equality that decides -/
abbrev ix {α : Type} [DecidableEq α] (o : List α) (x : α) : Nat := o.idxOf x
def SpotsN (kvs : List NE) (o : List (Nat × List Nat)) : Prop := kvs.length = o.length ∧ ∀ x : Nat × List Nat, atN kvs (kkey x) = if x ∈ o then some (vN (ix o x)) else none
theorem spotsN_nil : SpotsN [] [] := ⟨rfl, fun x => by simp [atN]⟩
theorem spotsN_put {kvs : List NE} {o : List (Nat × List Nat)} {x : Nat × List Nat} {b : Addr} (h : SpotsN kvs o) (hx : x ∉ o) : SpotsN (kvs ++ [(kkey x, b, vN o.length)]) (o ++ [x]) := by
  have hn : atN kvs (kkey x) = none := by rw [h.2 x, if_neg hx]
  refine ⟨by simp [h.1], fun y => ?_⟩
  rw [atN_snoc _ _ _ _ _ hn]
  by_cases e : y = x
  · subst e
    rw [if_pos rfl, if_pos (by simp)]
    unfold ix
    rw [idx_app, if_neg hx]
    simp
  · rw [if_neg (fun z => e (kkey_inj z)), h.2 y]
    by_cases hy : y ∈ o
    · rw [if_pos hy, if_pos (by simp [hy])]; unfold ix; rw [idx_app, if_pos hy]
    · rw [if_neg hy, if_neg (by simp [hy, e])]
theorem keyAt_of {x : Nat × List Nat} {b : Addr} (h : Di K H (.ref b) (kd x)) : KeyAt K H (kkey x) b := ⟨by rw [kkey_data]; exact h, kkey_depth x⟩
theorem ok_namedN (B : Bn mg) {f : Addr} {fd : FuncData} (F : Fun K "named_as_met" "named_as_met" s_named_as_met f fd) : FnOk P w K mg base CX0 1 f fd ["things"] (spNam K) := by
  refine F.ok sc_named_as_met (fun vs H Q E h => by obtain ⟨p, xs, rfl, _⟩ := h; rfl) (fun cdv A outer s H vs Q E hr h => ?_)
  obtain ⟨a, xs, rfl, hL, hx, kk⟩ := h
  refine ⟨_, (pss_cons (ps_set (i := 1) sc_named_as_met.nd rfl (Or.inr rfl) (k_dnewN P w K))
      (pss_one (ps_ret (pe_lc (own := [("thing", 2)]) rfl sc_named_as_met.nd (k_pil K (pv 0)) (blkOk_by (by kernel_rfl)) (fun _ _ _ _ _ => (pg_name (i := 2) sc_named_as_met.nd rfl (Or.inl rfl))) (fun _ _ _ _ _ => pts_nil) (fun _ _ _ _ _ => (k_dsetdN P w K hr (pv 1) (pv 2) (pe_callB (k_lenN P w K) (by rfl) B.len PySem.boot_len (pa_cons (pv 1) pa_nil)) ⟨by rfl, by rfl, by rfl, by rfl⟩)))))), ?_⟩
  refine fun p hp o0 nd0 => ?_
  have s0 : Same H (upd H p o0) := Same.new hp
  obtain ⟨ys, h1, h2⟩ := hL.to s0
  refine ⟨.ref a, rfl, a, rfl, ⟨ys, .of h1⟩, fun D hD => ?_⟩
  have hl := h2.len
  rw [List.length_map] at hl
  have pD : p ≠ D := fun z => by rw [← z, nd0.ob] at hD; cases hD
  have pa : p ≠ a := fun z => by rw [← z, nd0.ob] at h1; cases h1
  obtain ⟨us, ha0, ha1⟩ := hL
  have hDH : H D = none := s0.free hD
  refine lc_it (walk_list (K := K)) (fun i H' => Same H H' ∧ (∃ kvs, ND P w K H' p kvs ∧ SpotsN kvs (uniq (xs.take i))) ∧ H' D = some (.lst (((named xs).take i).map vN)))
    ⟨s0.trans (Same.new hD), ⟨[], nd0.to (Same.new hD), spotsN_nil⟩, upd_same⟩ (fun i H' _ h => .of (by have := h.1 _ _ ha0; rw [s0 _ _ ha0] at h1; cases h1; exact this)) (fun i x H3 H4 hi hP hY => ?_) fun H3 hP => ?_
  · obtain ⟨e3, ⟨kvs, nd, hsp⟩, hD3⟩ := hP
    obtain ⟨rfl, hx4⟩ := hY
    have hus : us = ys := by rw [s0 _ _ ha0] at h1; cases h1; rfl
    subst hus
    obtain ⟨d, hd, hxd⟩ := (ha1.to e3).at hx4
    rw [List.getElem?_map] at hd
    cases ei : xs[i]? with
    | none => rw [ei] at hd; cases hd
    | some z =>
      rw [ei] at hd
      obtain rfl : kd z = d := Option.some.inj hd
      obtain ⟨b, bs, rfl, _, _⟩ := id hxd.inv_tup
      have hul : (uniq (xs.take i)).length ≤ 60 := Nat.le_trans (uniq_len _) (by rw [List.length_take]; omega)
      have hkz : kvs.length < 100000 := by rw [hsp.1]; omega
      refine ⟨rfl, ?_⟩
      refine ⟨_, rfl, p, rfl, ⟨kvs, nd⟩, _, rfl, _, rfl, p, kvs, rfl, nd, hkz, b, kvs, kkey z, rfl, nd, keyAt_of hxd, hkz, fun y hy => ?_, fun hn o nd' => ?_⟩
      · have hmem : z ∈ xs.take i := Classical.byContradiction fun z6 => by
          have := hsp.2 z
          rw [if_neg (fun q => z6 (mem_uniq.mp q)), hy] at this; cases this
        have hyv : y = vN (ix (uniq xs) z) := by
          have := hsp.2 z
          rw [if_pos (mem_uniq.mpr hmem), hy] at this
          rw [show ix (uniq xs) z = ix (uniq (xs.take i)) z from named_old ei hmem]; exact Option.some.inj this
        subst hyv
        refine ⟨_, hD3, Evl.sz_lt (by rw [List.length_map, List.length_take]; omega), Same.mut e3 hDH, ⟨kvs, nd.put (.lst hD3) pD, by rw [uniq_take_old ei hmem]; exact hsp⟩, ?_⟩
        rw [named_take ei, List.map_append]; exact upd_same
      · have hmem : z ∉ xs.take i := fun z6 => by
          have := hsp.2 z
          rw [if_pos (mem_uniq.mpr z6), hn] at this; cases this
        have hyv : V.int kvs.length = vN (ix (uniq xs) z) := by rw [show ix (uniq xs) z = (uniq (xs.take i)).length from named_new ei hmem, hsp.1]
        have hsp' := spotsN_put (b := b) hsp (x := z) (fun q => hmem (mem_uniq.mp q))
        rw [← named_new ei hmem] at hsp'
        have nd2 := nd'
        rw [hyv] at nd2 ⊢
        refine ⟨_, by rw [upd_ne (Ne.symm pD)]; exact hD3, Evl.sz_lt (by rw [List.length_map, List.length_take]; omega), Same.mut (Same.mut e3 hp) hDH, ⟨_, nd2.put (.lst (by rw [upd_ne (Ne.symm pD)]; exact hD3)) pD, by rw [uniq_take_new ei hmem]; exact hsp'⟩, ?_⟩
        rw [named_take ei, List.map_append]; exact upd_same
  · obtain ⟨e3, _, hD3⟩ := hP
    rw [hl, ← named_length xs, List.take_length] at hD3
    exact kk D _ H3 hDH e3 hD3 (diAll_of_ints _)
end
end K63
/-! K63Lay15: lists joined, asked; dicts from lists of pairs. -/
namespace K63
open PySem PySem.Spec PyProof.Rows L2 RZ
section
variable {K : PySem.W.Frag} {σ : L2.St} {H H' : Hp} {ta tb tc td te tl ty : TE} {d : PyData} {ds es : List PyData} {v : V} {p l : Addr} {D : Ends} {tz : TS} {i j m n : Nat} {vs : List Nat}
theorem el_cat (ha : EvV ta σ H (.ref p)) (hp : Ls K H p ds) (hb : EvL K tb σ H es) (hz : ds.length + es.length ≤ 100000) : EvL K (tOp rCat ta tb) σ H (ds ++ es) := fun H1 e Q q =>
  ha H1 e _ fun H2 e2 => hb H2 (e.trans e2) _ fun b ys H3 hb3 e3 h3 hd3 => by
    obtain ⟨xs, h1, h2⟩ := hp.to ((e.trans e2).trans e3)
    exact ⟨p, b, xs, ys, rfl, rfl, h1, h3, Evl.sz_of (by rw [h2.len, hd3.len]; exact hz), fun t ht => q t _ _ ((e2.trans e3).free ht) ((e2.trans e3).trans (Same.new ht)) upd_same ((h2.append hd3).to (Same.new ht))⟩
theorem inV_ints (x : Nat) : ∀ ns : List Nat, inV (vN x) (ns.map vN) = decide (x ∈ ns)
  | [] => by simp [inV]
  | n :: ns => by
    have ih := inV_ints x ns
    unfold inV at ih ⊢
    rw [List.map_cons, List.any_cons, ih]
    have : eqV (vN n) (vN x) = decide (x = n) := by
      show ((n : Int) == (x : Int)) = _
      by_cases e : x = n
      · subst e; simp
      · rw [decide_eq_false e]; exact beq_eq_false_iff_ne.mpr (by omega)
    rw [this]
    by_cases e : x = n <;> simp [e]
theorem ed_notinL {x : Nat} {ns : List Nat} (ha : EvD K ta σ H (nI x)) (hb : EvV tb σ H (.ref p)) (hp : Ls K H p (ns.map nI)) : EvD K (tOp (rIn K true) ta tb) σ H (.bool (!decide (x ∈ ns))) := fun H1 e Q q =>
  ha H1 e _ fun v H2 e2 hv => hb H2 (e.trans e2) _ fun H3 e3 => by
    have h3 := (hp.to ((e.trans e2).trans e3)).ints
    rw [hv.inv_int]
    refine ⟨p, ns.map vN, rfl, .inl (.of h3), rfl, by rw [List.all_map]; exact List.all_eq_true.mpr fun _ _ => rfl, ?_⟩
    rw [inV_ints]
    exact q _ H3 (e2.trans e3) (.bl _)
/-- a dict of numbers of which each listed key is known: with what data -/
def DKs (K : PySem.W.Frag) (H : Hp) (a : Addr) (n : Nat) (S : Nat → Prop) (f : Nat → PyData) : Prop := ∃ kvs, H a = some (.dK kvs) ∧ kvs.length = n ∧ ∀ x : Nat, S x → ∃ v, valV kvs (.inl (x : Int)) = some v ∧ Di K H v (f x)
theorem DKs.to {a : Addr} {S : Nat → Prop} {f : Nat → PyData} (h : DKs K H a n S f) (e : Same H H') : DKs K H' a n S f := by
  obtain ⟨kvs, h1, h2, h3⟩ := h
  exact ⟨kvs, e _ _ h1, h2, fun x hx => let ⟨v, a, b⟩ := h3 x hx; ⟨v, a, b.to e⟩⟩
theorem ed_dks {a : Addr} {S : Nat → Prop} {f : Nat → PyData} {x : Nat} (ha : EvV ta σ H (.ref a)) (hp : DKs K H a n S f) (hb : EvD K tb σ H (nI x)) (hx : S x) : EvD K (tDGet ta tb) σ H (f x) := by
  obtain ⟨kvs, h1, h2, h3⟩ := hp
  obtain ⟨v, e1, e2⟩ := h3 x hx
  exact ed_dget ha h1 hb e1 e2
def rLenD : List V → Hp → VK → Prop := fun xs H Q => ∃ a kvs, xs = [V.ref a] ∧ H a = some (.dK kvs) ∧ Q (.int kvs.length) H
theorem cb_lenD {X : Cx} : CallR X (.builtin "len") rLenD := call_lenD
theorem ed_lenDK {a : Addr} {S : Nat → Prop} {f : Nat → PyData} (ha : EvV ta σ H (.ref a)) (hp : DKs K H a n S f) : EvD K (tCB rLenD (tCons ta tNil)) σ H (nI n) := fun H1 e Q q => ha H1 e _ fun H2 e2 => by
  obtain ⟨kvs, h1, h2, h3⟩ := hp
  refine ⟨a, kvs, rfl, (e.trans e2) _ _ h1, q _ H2 e2 ?_⟩
  rw [h2]; exact .int _
/-! dict(list of pairs) -/
/-- a pair of the list, as the dict's -/
def kvI (x : Nat × V) : Key × V := (.inl (x.1 : Int), x.2)
theorem inl_inj {a b : Nat} (h : (Sum.inl (a : Int) : Key) = .inl (b : Int)) : a = b := by injection h with h; exact Int.ofNat.inj h
theorem merge_some : ∀ (L : List (Nat × V)) (acc : List (Key × V)) (x : Nat), ((∃ v, valV acc (.inl (x : Int)) = some v) ∨ x ∈ L.map (·.1)) → ∃ v, valV (mergeK acc (L.map kvI)) (.inl (x : Int)) = some v
  | [], acc, x, h => by
    rcases h with h | h
    · exact h
    · simp at h
  | y :: L, acc, x, h => by
    show ∃ v, valV (mergeK (putK acc (.inl (y.1 : Int)) y.2) (L.map kvI)) _ = some v
    refine merge_some L _ x ?_
    rw [valV_put]
    by_cases e : x = y.1
    · subst e; exact .inl ⟨y.2, by rw [if_pos rfl]⟩
    · rw [if_neg (fun z => e (inl_inj z))]
      rcases h with h | h
      · exact .inl h
      · rcases List.mem_cons.mp h with h | h
        · exact absurd h e
        · exact .inr h
theorem merge_from : ∀ (L : List (Nat × V)) (acc : List (Key × V)) (x : Nat) (v : V), valV (mergeK acc (L.map kvI)) (.inl (x : Int)) = some v → valV acc (.inl (x : Int)) = some v ∨ (x, v) ∈ L
  | [], acc, x, v, h => .inl h
  | y :: L, acc, x, v, h => by
    have h' : valV (mergeK (putK acc (.inl (y.1 : Int)) y.2) (L.map kvI)) (.inl (x : Int)) = some v := h
    rcases merge_from L _ x v h' with h2 | h2
    · rw [valV_put] at h2
      by_cases e : x = y.1
      · subst e
        rw [if_pos rfl] at h2; cases h2
        exact .inr (by simp)
      · rw [if_neg (fun z => e (inl_inj z))] at h2; exact .inl h2
    · exact .inr (by simp [h2])
theorem putK_keys {kvs : List (Key × V)} {o : List Nat} (h : kvs.map (·.1) = o.map fun n : Nat => (.inl (n : Int) : Key)) (x : Nat) (v : V) : (putK kvs (.inl (x : Int)) v).map (·.1) = (addNew id o x).map fun n : Nat => (.inl (n : Int) : Key) := by
  have hm : (kvs.any fun kv => decide (kv.1 = .inl (x : Int))) = decide (x ∈ o) := by
    have : (kvs.any fun kv => decide (kv.1 = .inl (x : Int))) = ((kvs.map (·.1)).any fun k => decide (k = .inl (x : Int))) := by rw [List.any_map]; rfl
    rw [this, h, List.any_map]
    by_cases hx : x ∈ o
    · rw [decide_eq_true hx]; exact List.any_eq_true.mpr ⟨x, hx, by simp⟩
    · rw [decide_eq_false hx]
      refine List.any_eq_false.mpr fun y hy z => hx ?_
      have z' := inl_inj (of_decide_eq_true z)
      exact z' ▸ hy
  unfold putK addNew
  rw [hm]
  by_cases hx : x ∈ o
  · rw [if_pos (decide_eq_true hx), if_pos (by simpa using hx), ← h, List.map_map]
    refine List.map_congr_left fun kv _ => ?_
    show (if kv.1 = _ then (kv.1, v) else kv).1 = kv.1
    split <;> rfl
  · rw [if_neg (by simp [hx]), if_neg (by simpa using hx), List.map_append, List.map_append, h]; rfl
theorem merge_keys : ∀ (L : List (Nat × V)) (acc : List (Key × V)) (o : List Nat), acc.map (·.1) = o.map (fun n : Nat => (.inl (n : Int) : Key)) → (mergeK acc (L.map kvI)).map (·.1) = (expand id o (L.map (·.1))).map fun n : Nat => (.inl (n : Int) : Key)
  | [], acc, o, h => h
  | y :: L, acc, o, h => merge_keys L (putK acc (.inl (y.1 : Int)) y.2) (addNew id o y.1) (putK_keys h y.1 y.2)
theorem merge_len (L : List (Nat × V)) : (mergeK [] (L.map kvI)).length = (uniq (L.map (·.1))).length := by
  have := congrArg List.length (merge_keys L [] [] rfl)
  rwa [List.length_map, List.length_map] at this
theorem dict_keys : ∀ {xs : List Nat} {us : List V} {f : Nat → PyData}, DiAll K H us (xs.map fun x => .tuple [nI x, f x]) →
    ∃ (ps : List Addr) (L : List (Nat × V)), us = ps.map V.ref ∧ Paired (fun p kv => SqT K H p [kV kv.1, kv.2]) ps (L.map kvI) ∧ L.map (·.1) = xs ∧ ∀ q ∈ L, Di K H q.2 (f q.1)
  | [], _, _, h => by
    cases h
    exact ⟨[], [], rfl, .nil, rfl, fun _ h => by simp at h⟩
  | x :: xs, _, f, h => by
    cases h with
    | cons h1 h2 =>
      obtain ⟨ps, L, rfl, pr, e, hL⟩ := dict_keys h2
      obtain ⟨a, ys, rfl, h3, h4⟩ := h1.inv_tup
      obtain ⟨u1, u2, rfl, h5, h6⟩ := h4.inv2
      rw [h5.inv_int] at h3
      refine ⟨a :: ps, (x, u2) :: L, rfl, .cons h3 pr, by simp [e], fun q hq => ?_⟩
      rcases List.mem_cons.mp hq with rfl | hq
      · exact h6
      · exact hL q hq
/-- dict([(x, f x) ..]) -/
theorem en_dict {xs : List Nat} {f : Nat → PyData} (h : EvL K te σ H (xs.map fun x => .tuple [nI x, f x])) : EvNew (tCB (rDictK K) (tCons te tNil)) σ H fun a H2 => DKs K H2 a (uniq xs).length (· ∈ xs) f := fun H1 e Q q =>
  h H1 e _ fun l us H2 hl e2 h2 hd => by
    obtain ⟨ps, L, rfl, pr, eL, hL⟩ := dict_keys hd
    refine ⟨l, ps, L.map kvI, rfl, .of h2, pr, fun p hp => q p _ (e2.free hp) (e2.trans (Same.new hp)) ⟨_, upd_same, by rw [merge_len, eL], fun x hx => ?_⟩⟩
    obtain ⟨v, hv⟩ := merge_some L [] x (.inr (by rw [eL]; exact hx))
    rcases merge_from L [] x v hv with z | z
    · cases z
    · exact ⟨v, hv, (hL _ z).to (Same.new hp)⟩
/-! the same with nested keys -/
theorem all_at : ∀ (ps kvs : List NE) (k : NK), atN (allN kvs ps) k = match ps.reverse.find? (fun p => decide (p.1 = k)) with | some p => some p.2.2 | none => atN kvs k
  | [], kvs, k => rfl
  | p :: ps, kvs, k => by
    show atN (allN (putN kvs p.1 p.2.1 p.2.2) ps) k = _
    rw [all_at ps, List.reverse_cons, List.find?_append]
    cases ps.reverse.find? (fun p => decide (p.1 = k)) with
    | some q => rfl
    | none =>
      show atN (putN kvs p.1 p.2.1 p.2.2) k = _
      rw [atN_put]
      by_cases e : p.1 = k
      · rw [if_pos e.symm]; simp [e]
      · rw [if_neg (fun z => e z.symm)]; simp [e]
end
end K63
/-! K63Work10: the law's order of places met; dicts by rows of marks. -/
namespace K63
open PySem PySem.Spec PyProof.Rows L2 RZ
def pMetT (ds rs : List PyData) : Prop := ∃ R : Rd, ds = [tII R.mv, nI R.b] ∧ R.Ok ∧ Small R ∧ rs = R.o.map nI
structure MacOn (M : Mac) (l : List Nat) (b : Nat) : Prop where
  zero : 0 ∈ l
  inn : ∀ p ∈ l, ∀ x ∈ M.row p, x ∈ l
  wide : ∀ p ∈ l, (M.row p).length = b
def spMetD (K : PySem.W.Frag) : Sp := fun vs H Q _ => ∃ (a : Addr) (M : Mac) (l : List Nat) (b : Nat), vs = [.ref a, vN b] ∧ DKs K H a l.length (· ∈ l) (fun x => tI (M.row x)) ∧ MacOn M l b ∧ l.length ≤ 60 ∧ b ≤ 4 ∧ RetL K ((M.ord l.length).map nI) H Q
section
variable {P : Program} {w : World} {K : PySem.W.Frag} {mg : Str → Option Value} {base : Heap} {H H' : Hp} {σ : L2.St}
theorem met_core {D : Ends} {v0 : V} {M : Mac} {l : List Nat} {b n : Nat} {tmv tlen : TE} (on : MacOn M l b) (hl : l.length ≤ 60) (hb : b ≤ 4) (hn : n ≤ 60)
    (hlen : ∀ p H1, Same H H1 → EvD K tlen [some v0, some (vN b), some (.ref p), none, none, none] H1 (nI n))
    (hmv : ∀ σ' H' x, σ'[0]? = some (some v0) → Same H H' → EvD K (tOp (rIxL K) (tVar 2) (tVar 3)) σ' H' (nI x) → x ∈ l → EvD K tmv σ' H' (tI (M.row x)))
    (k : RetL K ((M.ord n).map nI) H D.rt) :
    tSeq (tAsg (tLst (tCons (tC (.int 0)) tNil)) (gName 2)) (tSeq (tFor (iRng1 (tCons tlen tNil)) (gName 3) (tIfS (tTest (tOp (rI0 fun i j => .bl (decide (i < j))) (tVar 3) (tCB (rLen K) (tCons (tVar 2) tNil))))
      (tFor (iRng1 (tCons (tVar 1) tNil)) (gName 4) (tSeq (tAsg (tOp (rIxT K) tmv (tVar 4)) (gName 5)) (tIfS (tTest (tOp (rIn K true) (tVar 5) (tVar 2))) (tAsg (tOp rCat (tVar 2) (tLst (tCons (tVar 5) tNil))) (gName 2)) tNext))) tNext)) (tRet (tVar 2))) D [some v0, some (vN b), none, none, none, none] H := by
  have hall : ∀ k, ∀ x ∈ M.ord k, x ∈ l := fun k => M.ord_all (fun p => p ∈ l) on.zero on.inn
  have hlen60 : ∀ (o : List Nat), o.Nodup → (∀ x ∈ o, x ∈ l) → o.length ≤ 60 := fun o h1 h2 => Nat.le_trans (length_le_of_nodup o l h1 h2) hl
  refine q_L (K := K) (ds := [0].map nI) (el_lst (ea_one ed_int) (by simp)) fun p vs H1 hp e1 h1 hd1 => ?_
  refine q_rng (K := K) (m := n) (ea_one (hlen p H1 e1)) (by omega) (fun k σ' H' => ∃ p y3 y4 y5, σ' = [some v0, some (vN b), some (.ref p), y3, y4, y5] ∧ Same H H' ∧ H p = none ∧ Ls K H' p ((M.ord k).map nI))
    (fun H2 e2 => ⟨p, none, none, none, rfl, e1.trans e2, hp, (show Ls K H1 p ([0].map nI) from ⟨vs, h1, hd1⟩).to e2⟩) (fun k σ' H2 hk hP => ?_) fun σ' H2 hP => ?_
  · obtain ⟨p, y3, y4, y5, rfl, e2, hp, hL⟩ := hP
    refine s_if (et_test (K := K) (ed_ltN (ed_var rfl (.int _)) (ed_lenLI (vv_var rfl) hL))) (fun hz H3 e3 => ?_) fun hz H3 e3 => ?_
    · have hz := of_decide_eq_true hz
      obtain ⟨pl, hpl⟩ := get_of_lt hz
      have hpll := hall k pl (List.mem_of_getElem? hpl)
      have hw := on.wide pl hpll
      have hord : M.ord (k + 1) = expand id (M.ord k) (M.row pl) := by unfold Mac.ord at hpl ⊢; rw [ordAt_succ, hpl]
      have hexl : ∀ i, (expand id (M.ord k) ((M.row pl).take i)).length ≤ 60 := fun i => hlen60 _ (by have := expand_nodup id (r := (M.row pl).take i) (o := M.ord k) (by simpa using M.ord_nodup (n := k)); simpa using this) fun x hx => by
        rcases expand_sub id hx with hx | hx
        · exact hall k x hx
        · exact on.inn pl hpll x (List.mem_of_mem_take hx)
      refine s_rng (K := K) (m := b) (ea_one (ed_var rfl (.int _))) (by omega) (fun i σ' H' => ∃ p y4 y5, σ' = [some v0, some (vN b), some (.ref p), some (vN k), y4, y5] ∧ Same H H' ∧ H p = none ∧ Ls K H' p ((expand id (M.ord k) ((M.row pl).take i)).map nI))
        (fun H4 e4 => ⟨p, y4, y5, rfl, (e2.trans e3).trans e4, hp, (hL.to e3).to e4⟩) (fun i σ' H4 hi hP => ?_) fun σ' H4 hP => ?_
      · obtain ⟨p, y4, y5, rfl, e4, hp, hL4⟩ := hP
        obtain ⟨z, hz⟩ := get_of_lt (l := M.row pl) (i := i) (by omega)
        have hpre : (expand id (M.ord k) ((M.row pl).take i))[k]? = some pl := prefix_get (expand_prefix id _ _) hpl
        refine q_N (K := K) (ed_ixI (hmv _ H4 pl rfl e4 (ed_ixLI (vv_var rfl) hL4 (ed_var rfl (.int _)) hpre) hpll) (ed_var rfl (.int _)) hz) fun H5 e5 => ?_
        have hst : expand id (M.ord k) ((M.row pl).take (i + 1)) = addNew id (expand id (M.ord k) ((M.row pl).take i)) z := by rw [List.take_add_one, hz, ← expand_snoc]; rfl
        have h60 := hexl i
        refine s_if (et_test (K := K) (ed_notinL (ed_var rfl (.int _)) (vv_var rfl) (hL4.to e5))) (fun hq H6 e6 => ?_) fun hq H6 e6 => ?_
        · have hnew : z ∉ expand id (M.ord k) ((M.row pl).take i) := by simpa using hq
          refine s_L (K := K) (el_cat (es := [nI z]) (vv_var rfl) ((hL4.to e5).to e6) (el_lst (ea_one (ed_var rfl (.int _))) (by simp)) (by simp; omega)) fun q us H7 hq7 e7 h7 hd7 => ?_
          refine ⟨q, _, _, rfl, ((e4.trans e5).trans e6).trans e7, ((e4.trans e5).trans e6).free hq7, ?_⟩
          rw [hst]
          unfold addNew
          rw [if_neg (by simpa using hnew), List.map_append]
          exact ⟨us, h7, hd7⟩
        · have hold : z ∈ expand id (M.ord k) ((M.row pl).take i) := by simpa using hq
          refine ⟨p, _, _, rfl, (e4.trans e5).trans e6, hp, ?_⟩
          rw [hst]
          unfold addNew
          rw [if_pos (by simpa using hold)]
          exact (hL4.to e5).to e6
      · obtain ⟨p, y4, y5, rfl, e4, hp, hL4⟩ := hP
        refine ⟨p, _, _, _, rfl, e4, hp, ?_⟩
        rw [List.take_of_length_le (by omega), ← hord] at hL4
        exact hL4
    · have hz := of_decide_eq_false hz
      refine ⟨p, _, _, _, rfl, e2.trans e3, hp, ?_⟩
      have : M.ord (k + 1) = M.ord k := by
        unfold Mac.ord at hz ⊢
        rw [ordAt_succ, List.getElem?_eq_none (by omega)]
      rw [this]
      exact hL.to e3
  · obtain ⟨p, y3, y4, y5, rfl, e2, hp, us, h2, hd2⟩ := hP
    exact ⟨.ref p, rfl, k p us H2 hp e2 h2 hd2⟩
abbrev s_law_met : Stmt := topS 34
theorem sc_law_met : FnScope ["_law_moves", "_law_wide", "_law_order", "_law_spot", "_law_digit", "_law_late"] ["_law_moves", "_law_wide"] (defScope s_law_met) := ⟨rfl, rfl, rfl, by decide +kernel, rfl, by decide +kernel, by decide +kernel⟩
-- 0 _law_moves, 1 _law_wide, 2 _law_order, 3 _law_spot, 4 _law_digit, 5 _law_late
theorem ok_law_metT (B : Bn mg) {f : Addr} {fd : FuncData} (F : Fun K "_law_met" "_law_met" s_law_met f fd) : FnOk P w K mg base CX0 1 f fd ["_law_moves", "_law_wide"] (spL K pMetT) := by
  refine F.ok sc_law_met (fun vs H Q E h => spL_len (n := 2) (fun ds r p => by obtain ⟨R, rfl, _⟩ := p; rfl) h) (fun cdv A outer s H vs Q E hr h => ?_)
  obtain ⟨ds, r, hd, ⟨R, rfl, ok, sm, rfl⟩, k⟩ := h
  obtain ⟨v, u, rfl, hv, hu'⟩ := hd.inv2
  cases hu'.inv_int
  refine ⟨_, (pss_cons (ps_set (i := 2) sc_law_met.nd rfl (Or.inl rfl) (pe_lst (pa_cons pe_int pa_nil)))
      (pss_cons (ps_for PassesOwn.never rfl (pi_range1 (by rfl) B.range (pa_cons (pe_callB (k_len K) (by rfl) B.len PySem.boot_len (pa_cons (pv 0) pa_nil)) pa_nil)) (pg_name (i := 3) sc_law_met.nd rfl (Or.inl rfl))
      (pss_one (ps_if (pt_cmpR op_lt (pv 3) (pe_callB (k_len K) (by rfl) B.len PySem.boot_len (pa_cons (pv 2) pa_nil)) (nomark _)) (pss_one (ps_for PassesOwn.never rfl (pi_range1 (by rfl) B.range (pa_cons (pv 1) pa_nil)) (pg_name (i := 4) sc_law_met.nd rfl (Or.inl rfl))
      (pss_cons (ps_set (i := 5) sc_law_met.nd rfl (Or.inl rfl) (pe_ix (k_ixT K) (pe_ix (k_ixT K) (pv 0) (pe_ix (k_ixL K) (pv 2) (pv 3) (fun _ _ => rfl)) (fun _ _ => rfl)) (pv 4) (fun _ _ => rfl)))
      (pss_one (ps_if (pt_cmpR (k_notIn K) (pv 5) (pv 2) (by rfl)) (pss_one (ps_set (i := 2) sc_law_met.nd rfl (Or.inl rfl) (pe_op op_cat (pv 2) (pe_lst (pa_cons (pv 5) pa_nil))))) pss_nil))))) pss_nil)))
      (pss_one (ps_ret (pv 2))))), ?_⟩
  have hn := sm.n
  refine met_core (M := R.mac) (l := List.range R.mv.length) (n := R.mv.length) ⟨by simpa using ok.pos, fun p hp x hx => by simpa using ok.row_lt (by simpa using hp) x hx, fun p hp => ok.row_len (by simpa using hp)⟩ (by simpa using hn) sm.b hn
    (fun p H1 e1 => ed_lenII (ed_var rfl (hv.to e1))) (fun σ' H' x h0 e hx hxl => ?_) k
  obtain ⟨r, hr⟩ := get_of_lt (show x < R.mv.length by simpa using hxl)
  rw [show R.mac.row x = r from getD_some hr]
  exact ed_ixII (ed_var h0 (hv.to e)) hx hr
theorem ok_law_metD (B : Bn mg) {f : Addr} {fd : FuncData} (F : Fun K "_law_met" "_law_met" s_law_met f fd) : FnOk P w K mg base CX0 1 f fd ["_law_moves", "_law_wide"] (spMetD K) := by
  refine F.ok sc_law_met (fun vs H Q E h => by obtain ⟨a, M, l, b, rfl, _⟩ := h; rfl) (fun cdv A outer s H vs Q E hr h => ?_)
  obtain ⟨a, M, l, b, rfl, hD, on, hl, hb, k⟩ := h
  have hu := room_u hr
  refine ⟨_, (pss_cons (ps_set (i := 2) sc_law_met.nd rfl (Or.inl rfl) (pe_lst (pa_cons pe_int pa_nil)))
      (pss_cons (ps_for PassesOwn.never rfl (pi_range1 (by rfl) B.range (pa_cons (pe_callB cb_lenD (by rfl) B.len PySem.boot_len (pa_cons (pv 0) pa_nil)) pa_nil)) (pg_name (i := 3) sc_law_met.nd rfl (Or.inl rfl))
      (pss_one (ps_if (pt_cmpR op_lt (pv 3) (pe_callB (k_len K) (by rfl) B.len PySem.boot_len (pa_cons (pv 2) pa_nil)) (nomark _)) (pss_one (ps_for PassesOwn.never rfl (pi_range1 (by rfl) B.range (pa_cons (pv 1) pa_nil)) (pg_name (i := 4) sc_law_met.nd rfl (Or.inl rfl))
      (pss_cons (ps_set (i := 5) sc_law_met.nd rfl (Or.inl rfl) (pe_ix (k_ixT K) (pe_dget hu (pv 0) (pe_ix (k_ixL K) (pv 2) (pv 3) (fun _ _ => rfl)) (fun _ _ => rfl)) (pv 4) (fun _ _ => rfl)))
      (pss_one (ps_if (pt_cmpR (k_notIn K) (pv 5) (pv 2) (by rfl)) (pss_one (ps_set (i := 2) sc_law_met.nd rfl (Or.inl rfl) (pe_op op_cat (pv 2) (pe_lst (pa_cons (pv 5) pa_nil))))) pss_nil))))) pss_nil)))
      (pss_one (ps_ret (pv 2))))), ?_⟩
  exact met_core (M := M) (l := l) (n := l.length) on hl hb hl (fun p H1 e1 => ed_lenDK (vv_var rfl) (hD.to e1)) (fun σ' H' x h0 e hx hxl => ed_dks (vv_var h0) (hD.to e) hx hxl) k
end
end K63
/-! K63Work11: the law's least reader. -/
namespace K63
open PySem PySem.Spec PyProof.Rows L2 RZ
def pLeastL (ds : List PyData) (r : PyData) : Prop := ∃ R : Rd, ds = [tR R] ∧ R.Ok ∧ Small R ∧ r = tR (leastL R)
theorem find_rel {o : List Nat} {g : Nat → Nat × List Nat} {k : NK} : ∀ {ps : List NE}, ps.map (fun p => (p.1, p.2.2)) = o.map (fun q => (kkey (g q), vN q)) →
    (ps.find? (fun p => decide (p.1 = k))).map (·.2.2) = (o.find? fun q => decide (kkey (g q) = k)).map vN := by
  induction o with
  | nil => intro ps h; cases ps with
    | nil => rfl
    | cons _ _ => simp at h
  | cons q o ih => intro ps h; cases ps with
    | nil => simp at h
    | cons p ps =>
      rw [List.map_cons, List.map_cons] at h
      injection h with h1 h2
      have e1 : p.1 = kkey (g q) := congrArg Prod.fst h1
      have e2 : p.2.2 = vN q := congrArg Prod.snd h1
      rw [List.find?_cons, List.find?_cons, e1]
      by_cases e : kkey (g q) = k
      · rw [decide_eq_true e]
        show some p.2.2 = some (vN q)
        rw [e2]
      · rw [decide_eq_false e]; exact ih h2
section
variable {P : Program} {w : World} {K : PySem.W.Frag} {mg : Str → Option Value} {base : Heap} {H H' : Hp} {σ : L2.St} {te td ty tb : TE} {D : Ends} {tz : TS} {i : Nat}
/-- the first place of each row of marks -/
def FN (P : Program) (w : World) (K : PySem.W.Frag) (H : Hp) (a : Addr) (o : List Nat) (g : Nat → Nat × List Nat) : Prop := ∃ kvs, ND P w K H a kvs ∧ ∀ p ∈ o, atN kvs (kkey (g p)) = some (vN (firstLike o g p))
theorem FN.to {a : Addr} {o : List Nat} {g : Nat → Nat × List Nat} (h : FN P w K H a o g) (e : Same H H') : FN P w K H' a o g := let ⟨kvs, x, y⟩ := h; ⟨kvs, x.to e, y⟩
theorem dict_keysN : ∀ {os : List Nat} {us : List V} {g : Nat → Nat × List Nat}, DiAll K H us (os.map fun q => .tuple [kd (g q), nI q]) →
    ∃ (ts : List Addr) (ps : List NE), us = ts.map V.ref ∧ Paired (fun t (p : NE) => SqT K H t [.ref p.2.1, p.2.2] ∧ KeyAt K H p.1 p.2.1) ts ps ∧ ts.length = os.length ∧ ps.map (fun p => (p.1, p.2.2)) = os.map (fun q => (kkey (g q), vN q))
  | [], _, _, h => by
    cases h
    exact ⟨[], [], rfl, .nil, rfl, rfl⟩
  | q :: os, _, g, h => by
    cases h with
    | cons h1 h2 =>
      obtain ⟨ts, ps, rfl, pr, el, e⟩ := dict_keysN h2
      obtain ⟨a, ys, rfl, h3, h4⟩ := h1.inv_tup
      obtain ⟨u1, u2, rfl, h5, h6⟩ := h4.inv2
      obtain ⟨b, bs, rfl, _, _⟩ := id h5.inv_tup
      rw [h6.inv_int] at h3
      exact ⟨a :: ts, (kkey (g q), b, vN q) :: ps, rfl, .cons ⟨h3, keyAt_of h5⟩ pr, by simp [el], by simp [e]⟩
/-- dict([(row of marks, place) ..]), from the last place to the first -/
theorem en_dictN {o : List Nat} {g : Nat → Nat × List Nat} (h : EvL K te σ H (o.reverse.map fun q => .tuple [kd (g q), nI q])) (hz : o.length < 100000) : EvNew (tCB (rDictN P w K) (tCons te tNil)) σ H fun a H2 => FN P w K H2 a o g := fun H1 e Q q =>
  h H1 e _ fun l us H2 hl e2 h2 hd => by
    obtain ⟨ts, ps, rfl, pr, el, eL⟩ := dict_keysN hd
    refine ⟨l, ts, ps, rfl, .of h2, by rw [el, List.length_reverse]; exact hz, pr, fun p hp u nd => q p _ (e2.free hp) (e2.trans (Same.new hp)) ⟨_, nd, fun x hx => ?_⟩⟩
    have eR : ps.reverse.map (fun p => (p.1, p.2.2)) = o.map (fun q => (kkey (g q), vN q)) := by
      rw [List.map_reverse, eL, ← List.map_reverse, List.reverse_reverse]
    have hf := find_rel (k := kkey (g x)) eR
    rw [all_at]
    have hg : (fun q => decide (kkey (g q) = kkey (g x))) = fun q => decide (g q = g x) := by
      funext q
      exact decide_eq_decide.mpr ⟨kkey_inj, fun e => by rw [e]⟩
    rw [hg] at hf
    have hs : (o.find? fun q => decide (g q = g x)).isSome = true := List.find?_isSome.mpr ⟨x, hx, by simp⟩
    obtain ⟨y, hy⟩ := Option.isSome_iff_exists.mp hs
    have hfl : firstLike o g x = y := by unfold firstLike; rw [hy]; rfl
    rw [hfl]
    rw [hy] at hf
    cases ef : ps.reverse.find? (fun p => decide (p.1 = kkey (g x))) with
    | none => rw [ef] at hf; cases hf
    | some z => rw [ef] at hf; exact hf
theorem ed_first {a : Addr} {o : List Nat} {g : Nat → Nat × List Nat} {p : Nat} (ha : EvV td σ H (.ref a)) (hF : FN P w K H a o g) (hb : EvD K ty σ H (kd (g p))) (hp : p ∈ o) : EvD K (tDGetN P w K td ty) σ H (nI (firstLike o g p)) := fun H1 e Q q =>
  ha H1 e _ fun H2 e2 => hb H2 (e.trans e2) _ fun y H3 e3 hy => by
    obtain ⟨kvs, nd, hat⟩ := hF.to ((e.trans e2).trans e3)
    obtain ⟨b, bs, rfl, _, _⟩ := id hy.inv_tup
    exact ⟨a, b, kvs, kkey (g p), _, rfl, rfl, nd, keyAt_of hy, hat p hp, q _ H3 (e2.trans e3) (.int _)⟩
theorem q_New {Φ : Addr → Hp → Prop} (h : EvNew te σ H Φ) (k : ∀ p H1, H p = none → Same H H1 → Φ p H1 → tz D (σ.set i (some (.ref p))) H1) : tSeq (tAsg te (gName i)) tz D σ H := h H (Same.refl _) _ k
theorem s_New {Φ : Addr → Hp → Prop} (h : EvNew te σ H Φ) (k : ∀ p H1, H p = none → Same H H1 → Φ p H1 → D.nx (σ.set i (some (.ref p))) H1) : tAsg te (gName i) D σ H := h H (Same.refl _) _ k
/-- [f place for place in places], f place data -/
theorem el_map {wi : TI} {j : Nat} {vs : List Nat} {xs : List Nat} {f : Nat → PyData} (hs : Src K wi σ H (xs.map nI)) (hz : xs.length ≤ 40000) (hw : ∀ x, wipe ((wipe σ vs).set j (some x)) vs = wipe σ vs)
    (he : ∀ (z : Nat) (H1 : Hp), z ∈ xs → Same H H1 → EvD K te ((wipe σ vs).set j (some (vN z))) H1 (f z)) : EvL K (tLc wi (gName j) tYes te vs) σ H (xs.map f) :=
  el_comp hs (by simp) (by rw [List.length_map]; exact hz) hw fun i d r x H1 hd hr e1 hx => by
    rw [List.getElem?_map] at hd hr
    cases e : xs[i]? with
    | none => rw [e] at hd; cases hd
    | some z =>
      rw [e] at hd hr
      obtain rfl : nI z = d := Option.some.inj hd
      obtain rfl : f z = r := Option.some.inj hr
      rw [hx.inv_int]
      exact he z H1 (List.mem_of_getElem? e) e1
/-- tuple([g late for late in a tuple of numbers]) -/
theorem ed_row {wi : TI} {j : Nat} {vs : List Nat} {xs : List Nat} {f : Nat → Nat} (hs : Src K wi σ H (xs.map nI)) (hz : xs.length ≤ 40000) (hw : ∀ x, wipe ((wipe σ vs).set j (some x)) vs = wipe σ vs)
    (he : ∀ (z : Nat) (H1 : Hp), z ∈ xs → Same H H1 → EvD K te ((wipe σ vs).set j (some (vN z))) H1 (nI (f z))) : EvD K (tCB (rTupOf K) (tCons (tLc wi (gName j) tYes te vs) tNil)) σ H (tI (xs.map f)) :=
  (ed_tupL (el_map (f := fun z => nI (f z)) hs hz hw he)).is (by simp [tI, List.map_map, Function.comp_def])
theorem ed_rowV {R : Rd} {a : Nat} (hv : EvD K td σ H (tII R.mv)) (hp : EvD K ty σ H (nI a)) (ha : a < R.mv.length) : EvD K (tOp (rIxT K) td ty) σ H (tI (R.row a)) := by
  obtain ⟨r, hr⟩ := get_of_lt ha
  rw [show R.row a = r from getD_some hr]
  exact ed_ixII hv hp hr
theorem ed_showV {R : Rd} {a : Nat} (ok : R.Ok) (hv : EvD K td σ H (tI R.sh)) (hp : EvD K ty σ H (nI a)) (ha : a < R.mv.length) : EvD K (tOp (rIxT K) td ty) σ H (nI (R.show a)) := by
  obtain ⟨t, ht⟩ := get_of_lt (l := R.sh) (i := a) (by rw [ok.shl]; exact ha)
  rw [show R.show a = t from getD_some ht]
  exact ed_ixI hv hp ht
theorem el_callMD {E : XK} {a : Addr} {M : Mac} {l : List Nat} {b : Nat} (ha : EvV td σ H (.ref a)) (hb : EvD K ty σ H (nI b)) (hD : DKs K H a l.length (· ∈ l) (fun x => tI (M.row x))) (on : MacOn M l b) (hl : l.length ≤ 60) (h4 : b ≤ 4) :
    EvL K (tCall (spMetD K) [] E (tCons td (tCons ty tNil))) σ H ((M.ord l.length).map nI) := fun H1 e Q q => ha H1 e _ fun H2 e2 => hb H2 (e.trans e2) _ fun v H3 e3 hv =>
  ⟨a, M, l, b, by rw [hv.inv_int]; rfl, hD.to ((e.trans e2).trans e3), on, hl, h4, fun p vs H4 hp e4 h4 hd => q p vs H4 ((e2.trans e3).free hp) ((e2.trans e3).trans e4) h4 hd⟩
/-- a pair [number, data] -/
theorem ed_pair {d1 d2 : PyData} (h1 : EvD K td σ H d1) (h2 : EvD K ty σ H d2) : EvD K (tTup (tCons td (tCons ty tNil))) σ H (.tuple [d1, d2]) := ed_tup (ea_cons h1 (ea_one h2)) (Nat.le_of_ble_eq_true rfl)
abbrev s_law_least : Stmt := topS 35
theorem sc_law_least : FnScope ["_law_reader_here", "_law_wide", "_law_moves", "_law_shows", "_law_met_here", "_law_marks", "_law_lap", "_law_rows", "_law_firsts", "_law_late_moves", "_law_order", "_law_spots", "_law_found", "_law_place", "_law_k", "_law_late"] ["_law_reader_here"] (defScope s_law_least) := ⟨rfl, rfl, rfl, by decide +kernel, rfl, by decide +kernel, by decide +kernel⟩
-- 0 _law_reader_here, 1 _law_wide, 2 _law_moves, 3 _law_shows, 4 _law_met_here, 5 _law_marks, 6 _law_lap, 7 _law_rows, 8 _law_firsts, 9 _law_late_moves, 10 _law_order, 11 _law_spots, 12 _law_found, 13 _law_place, 14 _law_k, 15 _law_late
theorem ok_law_least (B : Bn mg) (c_law_metT : Cal P w K mg base "_law_met" 1 ["_law_moves", "_law_wide"] [] (spL K pMetT)) (c_law_metD : Cal P w K mg base "_law_met" 1 ["_law_moves", "_law_wide"] [] (spMetD K))
    {f : Addr} {fd : FuncData} (F : Fun K "_law_least" "_law_least" s_law_least f fd) : FnOk P w K mg base CX0 2 f fd ["_law_reader_here"] (spD K pLeastL) := by
  refine F.ok sc_law_least (fun vs H Q E h => spD_len (n := 1) (fun ds r p => by obtain ⟨R, rfl, _⟩ := p; rfl) h) (fun cdv A outer s H vs Q E hr h => ?_)
  obtain ⟨ds, r, hd, ⟨R, rfl, ok, sm, rfl⟩, kk⟩ := h
  obtain ⟨v, rfl, hv⟩ := hd.inv1
  have hu := room_u hr
  refine ⟨_, (pss_cons (ps_asg (pv 0) (k_pgt K (n := 3) rfl (pgs_cons (pg_name (i := 1) sc_law_least.nd rfl (Or.inl rfl)) (pgs_cons (pg_name (i := 2) sc_law_least.nd rfl (Or.inr rfl)) (pgs_cons (pg_name (i := 3) sc_law_least.nd rfl (Or.inr rfl)) pgs_nil)))))
      (pss_cons (ps_set (i := 4) sc_law_least.nd rfl (Or.inl rfl) (pe_callC c_law_metT (hr.mono (by decide)) (by rfl) (pa_cons (pv 2) (pa_cons (pv 1) pa_nil))))
      (pss_cons (ps_set (i := 5) sc_law_least.nd rfl (Or.inr rfl) (pe_callTy (k_dictK K) (by rfl) B.dict boot_dict (pa_cons (pe_lc (own := [("_law_place", 13)]) rfl sc_law_least.nd (k_pil K (pv 4)) (blkOk_by (by kernel_rfl)) (fun _ _ _ _ _ => (pg_name (i := 13) sc_law_least.nd rfl (Or.inl rfl))) (fun _ _ _ _ _ => pts_nil) (fun _ _ _ _ _ => (pe_tup (pa_cons (pv 13) (pa_cons (pe_ix (k_ixT K) (pv 3) (pv 13) (fun _ _ => rfl)) pa_nil))))) pa_nil)))
      (pss_cons (ps_for PassesOwn.never rfl (pi_range1 (by rfl) B.range (pa_cons (pe_callB (k_len K) (by rfl) B.len PySem.boot_len (pa_cons (pv 4) pa_nil)) pa_nil)) (pg_name (i := 6) sc_law_least.nd rfl (Or.inl rfl))
      (pss_cons (ps_set (i := 7) sc_law_least.nd rfl (Or.inr rfl) (pe_callTy (k_dictK K) (by rfl) B.dict boot_dict (pa_cons (pe_lc (own := [("_law_place", 13)]) rfl sc_law_least.nd (k_pil K (pv 4)) (blkOk_by (by kernel_rfl)) (fun _ _ _ _ _ => (pg_name (i := 13) sc_law_least.nd rfl (Or.inl rfl))) (fun _ _ _ _ _ => pts_nil) (fun _ _ _ _ _ => (pe_tup (pa_cons (pv 13) (pa_cons (pe_tup (pa_cons (pe_dget hu (pv 5) (pv 13) (fun _ _ => rfl)) (pa_cons (pe_callTy (k_tup K) (by rfl) B.tuple boot_tuple (pa_cons (pe_lc (own := [("_law_late", 15)]) rfl sc_law_least.nd (k_pit K (pe_ix (k_ixT K) (pv 2) (pv 13) (fun _ _ => rfl))) (blkOk_by (by kernel_rfl)) (fun _ _ _ _ _ => (pg_name (i := 15) sc_law_least.nd rfl (Or.inl rfl))) (fun _ _ _ _ _ => pts_nil) (fun _ _ _ _ _ => (pe_dget hu (pv 5) (pv 15) (fun _ _ => rfl)))) pa_nil)) pa_nil))) pa_nil))))) pa_nil)))
      (pss_cons (ps_set (i := 8) sc_law_least.nd rfl (Or.inr rfl) (pe_callTy (k_dictN P w K hr) (by rfl) B.dict boot_dict (pa_cons (pe_lc (own := [("_law_place", 13)]) rfl sc_law_least.nd (k_pil K (k_revL K (pv 4))) (blkOk_by (by kernel_rfl)) (fun _ _ _ _ _ => (pg_name (i := 13) sc_law_least.nd rfl (Or.inl rfl))) (fun _ _ _ _ _ => pts_nil) (fun _ _ _ _ _ => (pe_tup (pa_cons (pe_dget hu (pv 7) (pv 13) (fun _ _ => rfl)) (pa_cons (pv 13) pa_nil))))) pa_nil)))
      (pss_one (ps_set (i := 5) sc_law_least.nd rfl (Or.inr rfl) (pe_callTy (k_dictK K) (by rfl) B.dict boot_dict (pa_cons (pe_lc (own := [("_law_place", 13)]) rfl sc_law_least.nd (k_pil K (pv 4)) (blkOk_by (by kernel_rfl)) (fun _ _ _ _ _ => (pg_name (i := 13) sc_law_least.nd rfl (Or.inl rfl))) (fun _ _ _ _ _ => pts_nil) (fun _ _ _ _ _ => (pe_tup (pa_cons (pv 13) (pa_cons (k_dgetN P w K hr (pv 8) (pe_dget hu (pv 7) (pv 13) (fun _ _ => rfl)) (fun _ _ => rfl)) pa_nil))))) pa_nil)))))))
      (pss_cons (ps_set (i := 9) sc_law_least.nd rfl (Or.inr rfl) (pe_callTy (k_dictK K) (by rfl) B.dict boot_dict (pa_cons (pe_lc (own := [("_law_place", 13)]) rfl sc_law_least.nd (k_pil K (k_revL K (pv 4))) (blkOk_by (by kernel_rfl)) (fun _ _ _ _ _ => (pg_name (i := 13) sc_law_least.nd rfl (Or.inl rfl))) (fun _ _ _ _ _ => pts_nil) (fun _ _ _ _ _ => (pe_tup (pa_cons (pe_dget hu (pv 5) (pv 13) (fun _ _ => rfl)) (pa_cons (pe_callTy (k_tup K) (by rfl) B.tuple boot_tuple (pa_cons (pe_lc (own := [("_law_late", 15)]) rfl sc_law_least.nd (k_pit K (pe_ix (k_ixT K) (pv 2) (pv 13) (fun _ _ => rfl))) (blkOk_by (by kernel_rfl)) (fun _ _ _ _ _ => (pg_name (i := 15) sc_law_least.nd rfl (Or.inl rfl))) (fun _ _ _ _ _ => pts_nil) (fun _ _ _ _ _ => (pe_dget hu (pv 5) (pv 15) (fun _ _ => rfl)))) pa_nil)) pa_nil))))) pa_nil)))
      (pss_cons (ps_set (i := 10) sc_law_least.nd rfl (Or.inr rfl) (pe_callC c_law_metD (hr.mono (by decide)) (by rfl) (pa_cons (pv 9) (pa_cons (pv 1) pa_nil))))
      (pss_cons (ps_set (i := 11) sc_law_least.nd rfl (Or.inr rfl) (pe_callTy (k_dictK K) (by rfl) B.dict boot_dict (pa_cons (pe_lc (own := [("_law_k", 14)]) rfl sc_law_least.nd (pi_range1 (by rfl) B.range (pa_cons (pe_callB (k_len K) (by rfl) B.len PySem.boot_len (pa_cons (pv 10) pa_nil)) pa_nil)) (blkOk_by (by kernel_rfl)) (fun _ _ _ _ _ => (pg_name (i := 14) sc_law_least.nd rfl (Or.inl rfl))) (fun _ _ _ _ _ => pts_nil) (fun _ _ _ _ _ => (pe_tup (pa_cons (pe_ix (k_ixL K) (pv 10) (pv 14) (fun _ _ => rfl)) (pa_cons (pv 14) pa_nil))))) pa_nil)))
      (pss_cons (ps_set (i := 12) sc_law_least.nd rfl (Or.inl rfl) (pe_callTy (k_tup K) (by rfl) B.tuple boot_tuple (pa_cons (pe_lc (own := [("_law_place", 13)]) rfl sc_law_least.nd (k_pil K (pv 10)) (blkOk_by (by kernel_rfl)) (fun _ _ _ _ _ => (pg_name (i := 13) sc_law_least.nd rfl (Or.inl rfl))) (fun _ _ _ _ _ => pts_nil) (fun _ _ _ _ _ => (pe_callTy (k_tup K) (by rfl) B.tuple boot_tuple (pa_cons (pe_lc (own := [("_law_late", 15)]) rfl sc_law_least.nd (k_pit K (pe_dget hu (pv 9) (pv 13) (fun _ _ => rfl))) (blkOk_by (by kernel_rfl)) (fun _ _ _ _ _ => (pg_name (i := 15) sc_law_least.nd rfl (Or.inl rfl))) (fun _ _ _ _ _ => pts_nil) (fun _ _ _ _ _ => (pe_dget hu (pv 11) (pv 15) (fun _ _ => rfl)))) pa_nil)))) pa_nil)))
      (pss_one (ps_ret (pe_tup (pa_cons (pv 1) (pa_cons (pv 12) (pa_cons (pe_callTy (k_tup K) (by rfl) B.tuple boot_tuple (pa_cons (pe_lc (own := [("_law_place", 13)]) rfl sc_law_least.nd (k_pil K (pv 10)) (blkOk_by (by kernel_rfl)) (fun _ _ _ _ _ => (pg_name (i := 13) sc_law_least.nd rfl (Or.inl rfl))) (fun _ _ _ _ _ => pts_nil) (fun _ _ _ _ _ => (pe_ix (k_ixT K) (pv 3) (pv 13) (fun _ _ => rfl)))) pa_nil)) pa_nil)))))))))))))), ?_⟩
  have hn := sm.n
  have hb := sm.b
  have oin := ok.o_lt
  have ocl : ∀ p ∈ R.o, ∀ x ∈ R.row p, x ∈ R.o := fun p hp => ok.done.closed (M := R.mac) hp
  have ol : R.o.length ≤ 60 := Nat.le_trans ok.done.short hn
  have orl : ∀ p ∈ R.o, (R.row p).length ≤ 40000 := fun p hp => by rw [ok.o_row p hp]; omega
  refine q_un3 (K := K) (ed_var rfl hv) fun v1 v2 v3 H1 e1 h1 h2 h3 => ?_
  cases h1.inv_int
  refine q_L (K := K) (ds := R.o.map nI) (el_call (pre := pMetT) (ea_cons (ed_var rfl h2) (ea_one (ed_var rfl (.int _)))) ⟨R, rfl, ok, sm, rfl⟩) fun m vs H2 hm e2 hm2 hdm => ?_
  have hM2 : Ls K H2 m (R.o.map nI) := ⟨vs, hm2, hdm⟩
  refine q_New (en_dict (K := K) (xs := R.o) (f := fun p => nI (marksAt R.mac R.o 0 p)) (el_map (f := fun p => .tuple [nI p, nI (marksAt R.mac R.o 0 p)]) (src_list (vv_var rfl) hM2) (by omega) (fun _ => rfl) fun z H3 hz e3 =>
    ed_pair (ed_var rfl (.int _)) (ed_showV ok (ed_var rfl ((h3.to e2).to e3)) (ed_var rfl (.int _)) (oin z hz)))) fun a H3 ha e3 hD3 => ?_
  have e13 := e2.trans e3
  refine q_rng (K := K) (m := R.o.length) (ea_one (ed_lenLI (vv_var rfl) (hM2.to e3))) (by omega) (fun k σ' H' => ∃ (a n : Nat) (y6 y7 y8 : Option V), σ' = [some v, some (vN R.b), some v2, some v3, some (.ref m), some (.ref a), y6, y7, y8, none, none, none, none, none, none, none] ∧ Same H2 H' ∧
      DKs K H' a n (· ∈ R.o) (fun p => nI (marksAt R.mac R.o k p))) (fun H4 e4 => ⟨a, _, none, none, none, rfl, e3.trans e4, hD3.to e4⟩) (fun k σ' H4 hk hP => ?_) fun σ' H4 hP => ?_
  · obtain ⟨a, n, y6, y7, y8, rfl, e4, hD⟩ := hP
    have e14 := e2.trans e4
    refine q_New (en_dict (K := K) (xs := R.o) (f := fun p => kd (rowMark R.mac R.o k p)) (el_map (f := fun p => .tuple [nI p, kd (rowMark R.mac R.o k p)]) (src_list (vv_var rfl) (hM2.to e4)) (by omega) (fun _ => rfl) fun z H5 hz e5 =>
      ed_pair (ed_var rfl (.int _)) (ed_pair (ed_dks (x := z) (vv_var rfl) (hD.to e5) (ed_var rfl (.int _)) hz) (ed_row (xs := R.row z) (f := marksAt R.mac R.o k) (src_tup (ds := (R.row z).map nI) (ed_rowV (ed_var rfl ((h2.to e14).to e5)) (ed_var rfl (.int _)) (oin z hz))) (orl z hz) (fun _ => rfl) fun y H6 hy e6 =>
        ed_dks (x := y) (vv_var rfl) ((hD.to e5).to e6) (ed_var rfl (.int _)) (ocl z hz y hy))))) fun b H5 hb5 e5 hR5 => ?_
    refine q_New (en_dictN (P := P) (w := w) (K := K) (o := R.o) (g := rowMark R.mac R.o k) (el_map (xs := R.o.reverse) (f := fun p => .tuple [kd (rowMark R.mac R.o k p), nI p]) (src_new ((el_rev (vv_var rfl) ((hM2.to e4).to e5)).is (by rw [List.map_reverse]))) (by simp; omega) (fun _ => rfl) fun z H6 hz e6 =>
      ed_pair (ed_dks (x := z) (vv_var rfl) (hR5.to e6) (ed_var rfl (.int _)) (by simpa using hz)) (ed_var rfl (.int _))) (by omega)) fun c H6 hc6 e6 hF6 => ?_
    refine s_New (en_dict (K := K) (xs := R.o) (f := fun p => nI (marksAt R.mac R.o (k + 1) p)) (el_map (f := fun p => .tuple [nI p, nI (marksAt R.mac R.o (k + 1) p)]) (src_list (vv_var rfl) (((hM2.to e4).to e5).to e6)) (by omega) (fun _ => rfl) fun z H7 hz e7 =>
      ed_pair (ed_var rfl (.int _)) (ed_first (vv_var rfl) (hF6.to e7) (ed_dks (x := z) (vv_var rfl) ((hR5.to e6).to e7) (ed_var rfl (.int _)) hz) hz))) fun a' H7 ha7 e7 hD7 => ?_
    exact ⟨a', _, _, _, _, rfl, ((e4.trans e5).trans e6).trans e7, hD7⟩
  · obtain ⟨a, n, y6, y7, y8, rfl, e4, hD⟩ := hP
    have e14 := e2.trans e4
    have hD : DKs K H4 a n (· ∈ R.o) (fun p => nI (R.mrk p)) := hD
    have hxs : (R.o.reverse.map R.mrk).map (fun x => PyData.tuple [nI x, tI ((leastLM R).row x)]) = R.o.reverse.map fun p => PyData.tuple [nI (R.mrk p), tI ((R.row p).map R.mrk)] := by
      rw [List.map_map]
      refine List.map_congr_left fun p hp => ?_
      have hp : p ∈ R.o := by simpa using hp
      show PyData.tuple [nI (R.mrk p), tI ((R.row (R.mrk p)).map R.mrk)] = _
      rw [mk_rows ok (mk_mem R hp) hp (mk_mk R hp)]
    refine q_New (en_dict (K := K) (xs := R.o.reverse.map R.mrk) (f := fun x => tI ((leastLM R).row x)) (EvL.is (el_map (xs := R.o.reverse) (f := fun p => PyData.tuple [nI (R.mrk p), tI ((R.row p).map R.mrk)]) (src_new ((el_rev (vv_var rfl) (hM2.to e4)).is (by rw [List.map_reverse]))) (by simp; omega) (fun _ => rfl) fun z H5 hz e5 => ?_) hxs.symm)) fun b H5 hb5 e5 hL5 => ?_
    · have hz : z ∈ R.o := by simpa using hz
      exact ed_pair (ed_dks (x := z) (vv_var rfl) (hD.to e5) (ed_var rfl (.int _)) hz) (ed_row (xs := R.row z) (f := R.mrk) (src_tup (ds := (R.row z).map nI) (ed_rowV (ed_var rfl ((h2.to e14).to e5)) (ed_var rfl (.int _)) (oin z hz))) (orl z hz) (fun _ => rfl) fun y H6 hy e6 =>
        ed_dks (x := y) (vv_var rfl) ((hD.to e5).to e6) (ed_var rfl (.int _)) (ocl z hz y hy))
    · have hkl : DKs K H5 b (keptL R).length (· ∈ keptL R) (fun x => tI ((leastLM R).row x)) := by
        obtain ⟨kvs, x1, x2, x3⟩ := hL5
        exact ⟨kvs, x1, x2, fun x hx => x3 x (mem_uniq.mp hx)⟩
      have kin : ∀ x ∈ keptL R, x < R.mv.length := fun x hx => oin x (kept_o hx).1
      have kl : (keptL R).length ≤ 60 := Nat.le_trans (uniq_len _) (by simp; exact ol)
      have on : MacOn (leastLM R) (keptL R) R.b := ⟨zero_kept R, fun p hp x hx => by
        rw [leastLM_row] at hx
        obtain ⟨q, hq, rfl⟩ := List.mem_map.mp hx
        exact mem_kept.mpr ⟨q, ocl p (kept_o hp).1 q hq, rfl⟩, fun p hp => by rw [leastLM_row, List.length_map]; exact ok.o_row p (kept_o hp).1⟩
      have ordin := ok.ordL
      have ordl : ((leastLM R).ord (keptL R).length).length ≤ 60 := Nat.le_trans ok.doneL.short kl
      refine q_L (K := K) (ds := ((leastLM R).ord (keptL R).length).map nI) (el_callMD (vv_var rfl) (ed_var rfl (.int _)) hkl on kl hb) fun q us H6 hq6 e6 hq hdq => ?_
      have hO6 : Ls K H6 q (((leastLM R).ord (keptL R).length).map nI) := ⟨us, hq, hdq⟩
      have ondup := (leastLM R).ord_nodup (n := (keptL R).length)
      have hL6 := hkl.to e6
      have e16 := (e14.trans e5).trans e6
      have hspot : (List.range ((leastLM R).ord (keptL R).length).length).map (fun k => PyData.tuple [nI (((leastLM R).ord (keptL R).length).getD k 0), nI k]) = ((leastLM R).ord (keptL R).length).map fun x => PyData.tuple [nI x, nI (((leastLM R).ord (keptL R).length).idxOf x)] := by
        refine List.ext_getElem? fun i => ?_
        rw [List.getElem?_map, List.getElem?_map]
        by_cases hi : i < ((leastLM R).ord (keptL R).length).length
        · rw [List.getElem?_range hi, List.getElem?_eq_getElem hi]
          have e : ((leastLM R).ord (keptL R).length)[i]? = some ((leastLM R).ord (keptL R).length)[i] := List.getElem?_eq_getElem hi
          simp only [Option.map_some]
          rw [getD_some e, get_idx ondup e]
        · rw [List.getElem?_eq_none (by simp; omega), List.getElem?_eq_none (by omega)]; rfl
      refine q_New (en_dict (K := K) (xs := (leastLM R).ord (keptL R).length) (f := fun x => nI (((leastLM R).ord (keptL R).length).idxOf x)) (EvL.is (el_map (xs := List.range ((leastLM R).ord (keptL R).length).length) (f := fun k => PyData.tuple [nI (((leastLM R).ord (keptL R).length).getD k 0), nI k])
        (src_rng (ea_one (ed_lenLI (vv_var rfl) hO6)) (by omega)) (by simp; omega) (fun _ => rfl) fun z H7 hz e7 => ed_pair (ed_ixLI (vv_var rfl) (hO6.to e7) (ed_var rfl (.int _)) (by
          have hz : z < ((leastLM R).ord (keptL R).length).length := by simpa using hz
          obtain ⟨y, hy⟩ := get_of_lt hz
          rw [getD_some hy]; exact hy)) (ed_var rfl (.int _))) hspot)) fun c H7 hc7 e7 hS7 => ?_
      refine q_D (K := K) (d := tII (leastL R).mv) ((ed_tupL (el_map (xs := (leastLM R).ord (keptL R).length) (f := fun p => tI (((leastLM R).row p).map fun x => ((leastLM R).ord (keptL R).length).idxOf x)) (src_list (vv_var rfl) (hO6.to e7)) (by omega) (fun _ => rfl) fun z H8 hz e8 =>
        ed_row (xs := (leastLM R).row z) (src_tup (ds := ((leastLM R).row z).map nI) (ed_dks (x := z) (vv_var rfl) ((hL6.to e7).to e8) (ed_var rfl (.int _)) (ordin z hz))) (by rw [ok.wideL z hz]; omega) (fun _ => rfl) fun y H9 hy e9 =>
          ed_dks (x := y) (vv_var rfl) ((hS7.to e8).to e9) (ed_var rfl (.int _)) (ok.doneL.closed hz y hy))).is (by simp [tII, leastL, Mac.trim, List.map_map, Function.comp_def])) fun v12 H8 e8 h12 => ?_
      have e18 := (e16.trans e7).trans e8
      refine q_ret' (K := K) (ed_tup (ds := [nI R.b, tII (leastL R).mv, tI (leastL R).sh]) (ea_cons (ed_var rfl (.int _)) (ea_cons (ed_var rfl h12) (ea_one (ed_row (xs := (leastLM R).ord (keptL R).length) (f := R.show) (src_list (vv_var rfl) ((hO6.to e7).to e8)) (by omega) (fun _ => rfl) fun z H9 hz e9 =>
        ed_showV ok (ed_var rfl ((h3.to e18).to e9)) (ed_var rfl (.int _)) (kin z (ordin z hz)))))) (Nat.le_of_ble_eq_true rfl)) fun x H9 e9 hx => kk x H9 (e1.trans (e18.trans e9)) hx
end
end K63
/-! K63Work14: the law's reader near another. -/
namespace K63
open PySem PySem.Spec PyProof.Rows L2 RZ
def spNear (K : PySem.W.Frag) : Sp := fun vs H Q _ => ∃ (p c : Addr) (cs : List Int) (n : Nat) (v : V) (R : Rd), vs = [.ref p, v] ∧ Feed H p c cs n ∧ Di K H v (tR R) ∧ R.Zero ∧ R.b ≤ 4 ∧ R.mv.length ≤ 6 ∧ (∀ x ∈ R.sh, x < 4) ∧ n ≤ 700000 ∧
  ∀ S v' H' m, But p H H' → Feed H' p c cs m → n ≤ m → m ≤ n + 300 → S.Zero → S.b = R.b → S.mv.length ≤ 7 → (∀ x ∈ S.sh, x < 5) → Di K H' v' (tR S) → Q v' H'
/-- the places of an order, named by it -/
theorem spot_list {o : List Nat} (hn : o.Nodup) : (List.range o.length).map (fun k => PyData.tuple [nI (o.getD k 0), nI k]) = o.map fun x => PyData.tuple [nI x, nI (o.idxOf x)] := by
  refine List.ext_getElem? fun i => ?_
  rw [List.getElem?_map, List.getElem?_map]
  by_cases hi : i < o.length
  · have e : o[i]? = some o[i] := List.getElem?_eq_getElem hi
    rw [List.getElem?_range hi, e]
    simp only [Option.map_some]
    rw [getD_some e, get_idx hn e]
  · rw [List.getElem?_eq_none (by simp; omega), List.getElem?_eq_none (by omega)]; rfl
theorem erase_map {α β : Type} {f : α → β} : ∀ (l : List α) (i : Nat), (l.map f).eraseIdx i = (l.eraseIdx i).map f
  | [], i => by simp
  | a :: l, 0 => by simp
  | a :: l, i + 1 => by simp [erase_map l i]
theorem erase_perm {α : Type} : ∀ {l : List α} {i : Nat} {x : α}, l[i]? = some x → (x :: l.eraseIdx i).Perm l
  | [], i, x, h => by simp at h
  | a :: l, 0, x, h => by simp at h; subst h; simp
  | a :: l, i + 1, x, h => by
    have ih := erase_perm (l := l) (i := i) (x := x) (by simpa using h)
    simp only [List.eraseIdx_cons_succ]
    exact (List.Perm.swap a x _).trans (ih.cons a)
/-- a reader whose places are put in another order -/
def Rd.perm (R : Rd) (o : List Nat) : Rd := ⟨R.b, o.map fun p => (R.row p).map fun q => o.idxOf q, o.map R.show⟩
theorem perm_zero {R : Rd} {o : List Nat} (z : R.Zero) (hp : o.Perm (List.range R.mv.length)) (h0 : o[0]? = some 0) : (R.perm o).Zero ∧ (∀ x ∈ (R.perm o).sh, x ∈ R.sh) ∧ (R.perm o).mv.length = R.mv.length := by
  have ok := z.toOk
  have hin : ∀ {x : Nat}, x ∈ o ↔ x < R.mv.length := fun {x} => by rw [hp.mem_iff]; exact List.mem_range
  have hl : o.length = R.mv.length := by rw [hp.length_eq, List.length_range]
  refine ⟨⟨⟨ok.base, by simp [Rd.perm, hl, ok.pos], fun r hr => ?_, fun r hr x hx => ?_, by simp [Rd.perm]⟩, ?_⟩, fun x hx => ?_, by simp [Rd.perm, hl]⟩
  · obtain ⟨p, hp, rfl⟩ := List.mem_map.mp hr
    rw [List.length_map]; exact ok.row_len (hin.mp hp)
  · obtain ⟨p, hp, rfl⟩ := List.mem_map.mp hr
    obtain ⟨q, hq, rfl⟩ := List.mem_map.mp hx
    have := List.idxOf_lt_length_of_mem (hin.mpr (ok.row_lt (hin.mp hp) q hq))
    simpa [Rd.perm] using this
  · have e : (R.perm o).mv[0]? = some ((R.row 0).map fun q => o.idxOf q) := by
      show (o.map fun p => (R.row p).map fun q => o.idxOf q)[0]? = _
      rw [List.getElem?_map, h0]; rfl
    have hz := z.zero
    rw [show (R.perm o).row 0 = _ from getD_some e, List.getElem?_map, hz]
    show some (o.idxOf 0) = some 0
    rw [get_idx (hp.nodup_iff.mpr List.nodup_range) h0]
  · obtain ⟨p, hp, rfl⟩ := List.mem_map.mp (show x ∈ o.map R.show from hx)
    exact getD_mem (by rw [ok.shl]; exact hin.mp hp)
section
variable {P : Program} {w : World} {K : PySem.W.Frag} {mg : Str → Option Value} {base : Heap} {H H' : Hp} {σ : L2.St} {te td ty ta tb tl tq : TE} {tt : TT} {D : Ends} {tz : TS} {i j n most : Nat} {p c l q : Addr} {cs : List Int} {ok : PyData → Prop}
/-- a, b = a drawn value, data -/
theorem q_un2F {d2 : PyData} (h : EvF K ta σ H p c cs most ok) (hb : ∀ H1, But p H H1 → NoTup H1 p → EvD K tb σ H1 d2) (hF : Feed H p c cs n) (hn : n + most ≤ 900000)
    (k : ∀ v u H1 n1 d, But p H H1 → Feed H1 p c cs n1 → n ≤ n1 → n1 ≤ n + most → Di K H1 v d → ok d → Di K H1 u d2 → tz D ((σ.set i (some v)).set j (some u)) H1) :
    tSeq (tAsg (tTup (tCons ta (tCons tb tNil))) (gTup K 2 (gCons (gName i) (gCons (gName j) gNil)))) tz D σ H := h H n (.refl _ _) hF hn _ fun v H1 n1 d b1 f1 h1 h2 hv ho => hb H1 b1 f1.noTup H1 (Same.refl _) _ fun u H2 e2 hu =>
  ⟨Evl.sz_of (by simp), fun t ht => ⟨t, _, rfl, .of upd_same, rfl, _, _, rfl, _, _, rfl, rfl, k v u _ n1 d (b1.trans (.of (e2.trans (Same.new ht)))) ((f1.to e2).new ht) h1 h2 ((hv.to e2).to (Same.new ht)) ho (hu.to (Same.new ht))⟩⟩
/-- one or the other, drawn in some cases -/
theorem ef_pick {b1 : Bool} {d1 d2 : PyData} {b : Nat} {tx : TE} (h1 : ∀ H1, EvT tt σ H1 b1) (h2 : EvF K tx σ H p c cs most fun d => ∃ x, x < b ∧ d = nI x) (ha : ∀ H1, EvD K ta σ H1 d1) (hb : ∀ H1, EvD K tb σ H1 d2) :
    EvF K (tIf (tAnd tt (tTest (tOp rEq tx (tC (.int 0))))) ta tb) σ H p c cs most fun d => d = d1 ∨ d = d2 := fun H1 n1 bb f1 hn Q q => h1 H1 H1 (Same.refl _) _ fun H2 e2 => by
  have end2 : ∀ {H3 n3}, But p H1 H3 → Feed H3 p c cs n3 → n1 ≤ n3 → n3 ≤ n1 + most → tb σ H3 Q := fun {H3 n3} b3 f3 x1 x2 => hb H3 H3 (Same.refl _) Q fun v H4 e4 hv => q v H4 n3 d2 (b3.trans (.of e4)) (f3.to e4) x1 x2 hv (.inr rfl)
  cases b1 with
  | false => exact end2 (.of e2) (f1.to e2) (Nat.le_refl _) (by omega)
  | true =>
    refine h2 H2 n1 (bb.trans (.of e2)) (f1.to e2) hn _ fun v H3 n3 d b3 f3 x1 x2 hv hd => ?_
    obtain ⟨x, hx, rfl⟩ := hd
    rw [hv.inv_int]
    refine ⟨rfl, _, rfl, ?_⟩
    by_cases e : x = 0
    · have e' : decide (vN x = V.int 0) = true := by subst e; rfl
      rw [e']
      exact ha H3 H3 (Same.refl _) Q fun v H4 e4 hv => q v H4 n3 d1 (((But.of e2).trans b3).trans (.of e4)) (f3.to e4) x1 x2 hv (.inl rfl)
    · have e' : decide (vN x = V.int 0) = false := decide_eq_false fun z => e (by injection z with z; omega)
      rw [e']
      exact end2 ((But.of e2).trans b3) f3 x1 x2
theorem el_rg {m : Nat} (hl : EvD K tl σ H (nI 1)) (hu : EvD K td σ H (nI m)) (hm : m < 10000) : EvL K (tLstRg (tRg2 tl td)) σ H (((List.range (m - 1)).map (· + 1)).map nI) := fun H1 e Q q => hl H1 e _ fun x H2 e2 hx => hu H2 (e.trans e2) _ fun y H3 e3 hy => by
  rw [hx.inv_int, hy.inv_int]
  refine ⟨(1 : Int), (m : Int), rfl, rfl, RgOk.of_le (by omega) (by omega) (by omega) (by omega), fun t ht => q t _ _ ((e2.trans e3).free ht) ((e2.trans e3).trans (Same.new ht)) upd_same ?_⟩
  have : rgV 1 (m : Int) = ((List.range (m - 1)).map (· + 1)).map vN := by
    unfold rgV
    rw [show ((m : Int) - 1).toNat = m - 1 by omega, List.map_map]
    refine List.map_congr_left fun i _ => ?_
    show V.int (1 + (i : Int)) = V.int ((i + 1 : Nat) : Int)
    congr 1; omega
  rw [this]
  exact diAll_of_ints _
theorem ef_imp {ok' : PyData → Prop} (h : EvF K te σ H p c cs most ok) (f : ∀ d, ok d → ok' d) : EvF K te σ H p c cs most ok' := fun H1 n1 b1 f1 hn Q q => h H1 n1 b1 f1 hn Q fun v H2 n2 d b2 f2 x y hv ho => q v H2 n2 d b2 f2 x y hv (f d ho)
/-- order.append(left.pop(draw(feed, len(left)))) -/
theorem s_popDraw {rest o : List Nat} {tf : TE} (hF : Feed H p c cs n) (hn : n < 900000) (hl : Ls K H l (rest.map nI)) (ho : Ls K H q (o.map nI)) (lp : l ≠ p) (lc : l ≠ c) (qp : q ≠ p) (qc : q ≠ c) (ql : q ≠ l) (h0 : 0 < rest.length) (h1 : rest.length < 1000) (h2 : o.length < 1000)
    (ef : ∀ H1, EvV tf σ H1 (.ref p)) (el : ∀ H1, EvV tl σ H1 (.ref l)) (eq : ∀ H1, EvV tq σ H1 (.ref q))
    (k : ∀ H' i x, rest[i]? = some x → Feed H' p c cs (n + 1) → Ls K H' l ((rest.eraseIdx i).map nI) → Ls K H' q ((o ++ [x]).map nI) → (∀ H0, H0 l = none → H0 q = none → But p H0 H → But p H0 H') → D.nx σ H') :
    tDrop (tBM K "list" rAppend tq (tCons (tBM K "list" rPopAt tl (tCons (tCall spDraw [] E0 (tCons tf (tCons (tCB (rLen K) (tCons tl tNil)) tNil))) tNil)) tNil)) D σ H := eq H H (Same.refl _) _ fun H1 e1 => by
  have hq1 := (ho.to e1).ints
  refine ⟨Or.inl ⟨rfl, _, .of hq1⟩, el H1 H1 (Same.refl _) _ fun H2 e2 => ?_⟩
  have hl2 := ((hl.to e1).to e2).ints
  refine ⟨Or.inl ⟨rfl, _, .of hl2⟩, ef H2 H2 (Same.refl _) _ fun H3 e3 => ?_⟩
  have e03 := (e1.trans e2).trans e3
  refine ed_lenLI (K := K) (el H3) (hl.to e03) H3 (Same.refl _) _ fun u H4 e4 hu => ?_
  have e04 := e03.trans e4
  rw [hu.inv_int]
  refine ⟨p, c, cs, n, rest.length, rfl, hF.to e04, h0, h1, by omega, fun d H5 hd b5 f5 => ?_⟩
  obtain ⟨x, hx⟩ := get_of_lt hd
  have hl5 : H5 l = some (.lst (rest.map vN)) := b5 _ _ lp (e04 _ _ hl.ints)
  have hq5 : H5 q = some (.lst (o.map vN)) := b5 _ _ qp (e04 _ _ ho.ints)
  have hix : ixN (rest.map vN).length (d : Int) = some d := by
    unfold ixN
    rw [List.length_map, if_pos (by omega), if_pos (by omega)]; simp
  refine ⟨l, rest.map vN, (d : Int), d, vN x, rfl, rfl, hl5, by omega, by omega, (ixN_seq hix).1, by rw [List.getElem?_map, hx]; rfl, ?_⟩
  have hq6 : upd H5 l (.lst ((rest.map vN).eraseIdx d)) q = some (.lst (o.map vN)) := by rw [upd_ne ql]; exact hq5
  refine ⟨q, o.map vN, vN x, rfl, rfl, hq6, Evl.sz_lt (by rw [List.length_map]; omega), ?_⟩
  refine k _ d x hx ((f5.put lp lc).put qp qc) ?_ ?_ fun H0 hl0 hq0 b0 => ((b0.trans ((But.of e04).trans b5)).mut hl0).mut hq0
  · refine Ls.of_ints ?_
    rw [upd_ne (Ne.symm ql), upd_same]
    congr 2
    exact erase_map _ _
  · refine Ls.of_ints ?_
    rw [upd_same, List.map_append]; rfl
abbrev s_law_near : Stmt := topS 36
theorem sc_law_near : FnScope ["_law_feed_here", "_law_reader_here", "_law_wide", "_law_moves", "_law_shows", "_law_way", "_law_many", "_law_spot", "_law_rows", "_law_left", "_law_order", "_law_lap", "_law_names", "_law_row", "_law_k", "_law_place", "_law_late"] ["_law_feed_here", "_law_reader_here"] (defScope s_law_near) := ⟨rfl, rfl, rfl, by decide +kernel, rfl, by decide +kernel, by decide +kernel⟩
-- 0 _law_feed_here, 1 _law_reader_here, 2 _law_wide, 3 _law_moves, 4 _law_shows, 5 _law_way, 6 _law_many, 7 _law_spot, 8 _law_rows, 9 _law_left, 10 _law_order, 11 _law_lap, 12 _law_names, 13 _law_row, 14 _law_k, 15 _law_place, 16 _law_late
theorem ok_law_near (B : Bn mg) (c_law_draw : Cal P w K mg base "_law_draw" 1 ["_law_feed_here", "_law_bound"] [] spDraw) (c_law_reader : Cal P w K mg base "_law_reader" 2 ["_law_feed_here", "_law_most", "_law_wide", "_law_values"] [] (spReader K))
    {f : Addr} {fd : FuncData} (F : Fun K "_law_near" "_law_near" s_law_near f fd) : FnOk P w K mg base CX0 3 f fd ["_law_feed_here", "_law_reader_here"] (spNear K) := by
  refine F.ok sc_law_near (fun vs H Q E h => by obtain ⟨p, c, cs, n, v, R, rfl, _⟩ := h; rfl) (fun cdv A outer s H vs Q E hr h => ?_)
  obtain ⟨p, c, cs, n, v, R, rfl, hF, hv, z, hb, hmv, hsh, hn, k⟩ := h
  have hu := room_u hr
  refine ⟨_, (pss_cons (ps_asg (pv 1) (k_pgt K (n := 3) rfl (pgs_cons (pg_name (i := 2) sc_law_near.nd rfl (Or.inl rfl)) (pgs_cons (pg_name (i := 3) sc_law_near.nd rfl (Or.inr rfl)) (pgs_cons (pg_name (i := 4) sc_law_near.nd rfl (Or.inr rfl)) pgs_nil)))))
      (pss_cons (ps_asg (pe_tup (pa_cons (pe_callC c_law_draw (hr.mono (by decide)) (by rfl) (pa_cons (pv 0) (pa_cons pe_int pa_nil))) (pa_cons (pe_callB (k_len K) (by rfl) B.len PySem.boot_len (pa_cons (pv 3) pa_nil)) pa_nil))) (k_pgt K (n := 2) rfl (pgs_cons (pg_name (i := 5) sc_law_near.nd rfl (Or.inl rfl)) (pgs_cons (pg_name (i := 6) sc_law_near.nd rfl (Or.inr rfl)) pgs_nil))))
      (pss_cons (ps_set (i := 7) sc_law_near.nd rfl (Or.inr rfl) (pe_callC c_law_draw (hr.mono (by decide)) (by rfl) (pa_cons (pv 0) (pa_cons (pv 6) pa_nil))))
      (pss_cons (ps_if (pt_cmpR op_eq (pv 5) pe_int (nomark _)) (pss_one (ps_ret (pe_callC c_law_reader (hr.mono (by decide)) (by rfl) (pa_cons (pv 0) (pa_cons pe_int (pa_cons (pv 2) (pa_cons pe_int pa_nil))))))) pss_nil)
      (pss_cons (ps_if (pt_cmpR op_eq (pv 5) pe_int (nomark _)) (pss_one (ps_ret (pe_tup (pa_cons (pv 2) (pa_cons (pv 3) (pa_cons (pe_op (k_catT K) (pe_op (k_catT K) (pe_slice (k_slT K) (pv 4) po_none (po_some (pv 7))) (pe_tup (pa_cons (pe_op op_add (pe_ix (k_ixT K) (pv 4) (pv 7) (fun _ _ => rfl)) pe_int) pa_nil))) (pe_slice (k_slT K) (pv 4) (po_some (pe_op op_add (pv 7) pe_int)) po_none)) pa_nil)))))) pss_nil)
      (pss_cons (ps_if (pt_cmpR op_eq (pv 5) pe_int (nomark _)) (pss_cons (ps_setLc (i := 8) (own := [("_law_row", 13)]) rfl sc_law_near.nd rfl rfl (sw_true rfl rfl rfl (by decide +kernel)) (k_pit K (pv 3)) (blkOk_by (by kernel_rfl)) (fun _ _ _ _ _ => (pg_name (i := 13) sc_law_near.nd rfl (Or.inl rfl))) (fun _ _ _ _ _ => pts_nil) (fun _ _ _ _ _ => (pe_callTy (k_tup K) (by rfl) B.tuple boot_tuple (pa_cons (pe_lc (own := [("_law_late", 16)]) rfl sc_law_near.nd (k_pit K (pv 13)) (blkOk_by (by kernel_rfl)) (fun _ _ _ _ _ => (pg_name (i := 16) sc_law_near.nd rfl (Or.inl rfl))) (fun _ _ _ _ _ => pts_nil) (fun _ _ _ _ _ => (pe_ifExp (PW.pt (pw_and (pt_cmpR op_eq (pv 16) (pv 7) (nomark _)) (pw_and1 (pt_cmpR op_eq (pe_callC c_law_draw (hr.mono (by decide)) (by rfl) (pa_cons (pv 0) (pa_cons pe_int pa_nil))) pe_int (nomark _))))) (pv 6) (pv 16)))) pa_nil))))
      (pss_cons (ps_asg (pe_op (k_catT K) (pe_tup (pa_cons pe_int pa_nil)) (pe_slice (k_slT K) (pe_ix (k_ixL K) (pv 8) pe_int (fun _ _ => rfl)) (po_some pe_int) po_none)) (pg_sub (pv 8) pe_int set_list))
      (pss_one (ps_ret (pe_tup (pa_cons (pv 2) (pa_cons (pe_op (k_catT K) (pe_callTy (k_tup K) (by rfl) B.tuple boot_tuple (pa_cons (pv 8) pa_nil)) (pe_tup (pa_cons (pe_ix (k_ixL K) (pv 8) (pv 7) (fun _ _ => rfl)) pa_nil))) (pa_cons (pe_op (k_catT K) (pv 4) (pe_tup (pa_cons (pe_ix (k_ixT K) (pv 4) (pv 7) (fun _ _ => rfl)) pa_nil))) pa_nil)))))))) pss_nil)
      (pss_cons (ps_asg (pe_tup (pa_cons (pe_listRg rfl (by rfl) B.list (prg_2 (by rfl) B.range pe_int (pv 6))) (pa_cons (pe_lst (pa_cons pe_int pa_nil)) pa_nil))) (k_pgt K (n := 2) rfl (pgs_cons (pg_name (i := 9) sc_law_near.nd rfl (Or.inl rfl)) (pgs_cons (pg_name (i := 10) sc_law_near.nd rfl (Or.inr rfl)) pgs_nil))))
      (pss_cons (ps_for PassesOwn.never rfl (pi_range1 (by rfl) B.range (pa_cons (pe_op op_sub (pv 6) pe_int) pa_nil)) (pg_name (i := 11) sc_law_near.nd rfl (Or.inl rfl))
      (pss_one (ps_expr (k_bm K PySem.F.plainAttrs_list PySem.F.slot_list_append PySem.F.type_list_append mt_append (pv 10) (pa_cons (k_bm K PySem.F.plainAttrs_list PySem.F.slot_list_pop PySem.F.type_list_pop mt_popAt (pv 9) (pa_cons (pe_callC c_law_draw (hr.mono (by decide)) (by rfl) (pa_cons (pv 0) (pa_cons (pe_callB (k_len K) (by rfl) B.len PySem.boot_len (pa_cons (pv 9) pa_nil)) pa_nil))) pa_nil)) pa_nil)))))
      (pss_cons (ps_set (i := 12) sc_law_near.nd rfl (Or.inr rfl) (pe_callTy (k_dictK K) (by rfl) B.dict boot_dict (pa_cons (pe_lc (own := [("_law_k", 14)]) rfl sc_law_near.nd (pi_range1 (by rfl) B.range (pa_cons (pv 6) pa_nil)) (blkOk_by (by kernel_rfl)) (fun _ _ _ _ _ => (pg_name (i := 14) sc_law_near.nd rfl (Or.inl rfl))) (fun _ _ _ _ _ => pts_nil) (fun _ _ _ _ _ => (pe_tup (pa_cons (pe_ix (k_ixL K) (pv 10) (pv 14) (fun _ _ => rfl)) (pa_cons (pv 14) pa_nil))))) pa_nil)))
      (pss_cons (ps_set (i := 8) sc_law_near.nd rfl (Or.inl rfl) (pe_callTy (k_tup K) (by rfl) B.tuple boot_tuple (pa_cons (pe_lc (own := [("_law_place", 15)]) rfl sc_law_near.nd (k_pil K (pv 10)) (blkOk_by (by kernel_rfl)) (fun _ _ _ _ _ => (pg_name (i := 15) sc_law_near.nd rfl (Or.inl rfl))) (fun _ _ _ _ _ => pts_nil) (fun _ _ _ _ _ => (pe_callTy (k_tup K) (by rfl) B.tuple boot_tuple (pa_cons (pe_lc (own := [("_law_late", 16)]) rfl sc_law_near.nd (k_pit K (pe_ix (k_ixT K) (pv 3) (pv 15) (fun _ _ => rfl))) (blkOk_by (by kernel_rfl)) (fun _ _ _ _ _ => (pg_name (i := 16) sc_law_near.nd rfl (Or.inl rfl))) (fun _ _ _ _ _ => pts_nil) (fun _ _ _ _ _ => (pe_dget hu (pv 12) (pv 16) (fun _ _ => rfl)))) pa_nil)))) pa_nil)))
      (pss_one (ps_ret (pe_tup (pa_cons (pv 2) (pa_cons (pv 8) (pa_cons (pe_callTy (k_tup K) (by rfl) B.tuple boot_tuple (pa_cons (pe_lc (own := [("_law_place", 15)]) rfl sc_law_near.nd (k_pil K (pv 10)) (blkOk_by (by kernel_rfl)) (fun _ _ _ _ _ => (pg_name (i := 15) sc_law_near.nd rfl (Or.inl rfl))) (fun _ _ _ _ _ => pts_nil) (fun _ _ _ _ _ => (pe_ix (k_ixT K) (pv 4) (pv 15) (fun _ _ => rfl)))) pa_nil)) pa_nil)))))))))))))))), ?_⟩
  have ok := z.toOk
  have hpos := ok.pos
  refine q_un3 (K := K) (ed_var rfl hv) fun v1 v2 v3 H1 e1 h1 h2 h3 => ?_
  cases h1.inv_int
  have hF1 := hF.to e1
  refine q_un2F (K := K) (d2 := nI R.mv.length) (ef_draw (b := 5) (fun _ => vv_var rfl) (fun _ => ed_int) (by decide) (by decide)) (fun H2 b2 nt2 => ed_lenII (ed_var rfl (h2.tx (b2.tx hF1.noTup)))) hF1 (by omega) fun vw vm H2 n2 d b2 f2 x2 y2 hw ho hm => ?_
  obtain ⟨way, hway, rfl⟩ := ho
  cases hw.inv_int
  cases hm.inv_int
  refine q_F (K := K) (ef_draw (b := R.mv.length) (fun _ => vv_var rfl) (fun _ => ed_var rfl (.int _)) hpos (by omega)) f2 (by omega) fun vs' H3 n3 d b3 f3 x3 y3 hs ho => ?_
  obtain ⟨spot, hspot, rfl⟩ := ho
  cases hs.inv_int
  have b03 := (But.of e1).trans (b2.trans b3)
  have t13 : Tx H1 H3 := (b2.trans b3).tx hF1.noTup
  have h2' := h2.tx t13
  have h3' := h3.tx t13
  refine q_if (et_test (K := K) (ed_eqN (b := 0) (ed_var rfl (.int _)) ed_int)) (fun hz H4 e4 => ?_) fun hz H4 e4 => ?_
  · refine ⟨.ref p, rfl, vN R.b, rfl, p, c, cs, n3, 4, R.b, 3, rfl, f3.to e4, by decide, by decide, ok.base, hb, by decide, by decide, by omega, fun S v' H5 m b5 f5 xm ym zS bS nS sS dS => ?_⟩
    exact k S v' H5 m ((b03.trans (.of e4)).trans b5) f5 (by omega) (by omega) zS bS (by omega) (fun x hx => by have := sS x hx; omega) dS
  · refine q_if (et_test (K := K) (ed_eqN (b := 1) (ed_var rfl (.int _)) ed_int)) (fun hz H5 e5 => ?_) fun hz H5 e5 => ?_
    · have e35 := e4.trans e5
      obtain ⟨y, hy⟩ := get_of_lt (l := R.sh) (i := spot) (by rw [ok.shl]; exact hspot)
      have hyl := hsh y (List.mem_of_getElem? hy)
      have d3 := h3'.to e35
      have hcut : EvD K _ _ H5 (tI (R.sh.take spot ++ [y + 1] ++ R.sh.drop (spot + 1))) := (ed_cat (ds := (R.sh.take spot).map nI ++ [nI (y + 1)]) (es := (R.sh.drop (spot + 1)).map nI)
        (ed_cat (ds := (R.sh.take spot).map nI) (es := [nI (y + 1)]) ((ed_upto (k := spot) (ds := R.sh.map nI) (ed_var (i := 4) (σ := [some (.ref p), some v, some (vN R.b), some v2, some v3, some (vN way), some (vN R.mv.length), some (vN spot), none, none, none, none, none, none, none, none, none]) rfl d3) (ed_var (i := 7) rfl (.int _))).is (by rw [List.map_take]))
          (ed_tup (ea_one (ed_add (b := 1) (ed_ixI (k := spot) (ed_var (i := 4) rfl d3) (ed_var (i := 7) rfl (.int _)) hy) ed_int)) (by simp)) (by simp; have := ok.shl; omega))
        ((ed_from (k := spot + 1) (ds := R.sh.map nI) (ed_var (i := 4) rfl d3) (ed_add (b := 1) (ed_var (i := 7) rfl (.int _)) ed_int)).is (by rw [List.map_drop])) (by simp; have := ok.shl; omega)).is (by simp [tI])
      refine q_ret (K := K) (ed_tup (ds := [nI R.b, tII R.mv, tI (R.sh.take spot ++ [y + 1] ++ R.sh.drop (spot + 1))]) (ea_cons (ed_var rfl (.int _)) (ea_cons (ed_var rfl (h2'.to e35)) (ea_one hcut))) (Nat.le_of_ble_eq_true rfl)) fun x H6 e6 hx => ?_
      refine k ⟨R.b, R.mv, R.sh.take spot ++ [y + 1] ++ R.sh.drop (spot + 1)⟩ x H6 n3 (b03.trans (.of (e35.trans e6))) (f3.to (e35.trans e6)) (by omega) (by omega) ⟨⟨ok.base, ok.pos, ok.wide, ok.inn, ?_⟩, z.zero⟩ rfl (by show R.mv.length ≤ 7; omega) (fun x hx => ?_) hx
      · have := ok.shl
        simp
        omega
      · simp only [List.mem_append, List.mem_singleton] at hx
        rcases hx with (hx | rfl) | hx
        · have := hsh x (List.mem_of_mem_take hx); omega
        · omega
        · have := hsh x (List.mem_of_mem_drop hx); omega
    · have e35 := e4.trans e5
      refine q_if (et_test (K := K) (ed_eqN (b := 2) (ed_var rfl (.int _)) ed_int)) (fun hz H6 e6 => ?_) fun hz H6 e6 => ?_
      · have e36 := e35.trans e6
        have f6 := f3.to e36
        have d2 := h2'.to e36
        have d3 := h3'.to e36
        have hmul : R.mv.length * (R.b * 1) ≤ 6 * 4 := Nat.mul_le_mul hmv (by omega)
        refine q_FL (K := K) (ef_comp (ds := R.mv.map tI) (most := R.b * 1) (okE := okRow R.b (R.mv.length + 1)) (fun H7 b7 nt7 => srcB_tup (ed_var rfl (d2.tx (b7.tx f6.noTup)))) (by simp; omega) (fun _ => rfl) fun i d y H7 hd b7 nt7 hy => ?_) f6 (by rw [List.length_map]; omega)
          fun l xs H7 n7 ds hl b7 f7 x7 y7 hlx hdx hF2 => ?_
        · rw [List.getElem?_map] at hd
          cases er : R.mv[i]? with
          | none => rw [er] at hd; cases hd
          | some row =>
            rw [er] at hd
            obtain rfl : tI row = d := Option.some.inj hd
            have hrm := List.mem_of_getElem? er
            have hrl := ok.wide row hrm
            have hcomp := ef_comp (K := K) (wi := iTup K (tVar 13)) (te := tIf (tAnd (tTest (tOp rEq (tVar 16) (tVar 7))) (tTest (tOp rEq (tCall spDraw [] E0 (tCons (tVar 0) (tCons (tC (.int 2)) tNil))) (tC (.int 0))))) (tVar 6) (tVar 16)) (j := 16) (vs := [16])
              (σ := [some (.ref p), some v, some (vN R.b), some v2, some v3, some (vN way), some (vN R.mv.length), some (vN spot), none, none, none, none, none, some y, none, none, none]) (H := H7) (p := p) (c := c) (cs := cs) (ds := row.map nI) (most := 1) (okE := okNum (R.mv.length + 1))
              (fun H8 b8 nt8 => srcB_tup (ed_var (i := 13) rfl (hy.tx (b8.tx nt7)))) (by rw [List.length_map]; omega) (fun _ => rfl) (fun j d z H8 hd b8 nt8 hz => by
                rw [List.getElem?_map] at hd
                cases ez : row[j]? with
                | none => rw [ez] at hd; cases hd
                | some g =>
                  rw [ez] at hd
                  obtain rfl : nI g = d := Option.some.inj hd
                  have hg := ok.inn row hrm g (List.mem_of_getElem? ez)
                  cases hz.inv_int
                  exact ef_imp (ef_pick (b := 2) (d1 := nI R.mv.length) (d2 := nI g) (fun H9 => et_test (K := K) (ed_eqN (ed_var rfl (.int _)) (ed_var rfl (.int _)))) (ef_draw (b := 2) (fun _ => vv_var rfl) (fun _ => ed_int) (by decide) (by decide)) (fun _ => ed_var rfl (.int _)) (fun _ => ed_var rfl (.int _)))
                    fun d hd => by
                      rcases hd with rfl | rfl
                      · exact ⟨_, Nat.lt_succ_self _, rfl⟩
                      · exact ⟨g, by omega, rfl⟩)
            have htup := ef_tupL hcomp
            rw [List.length_map, hrl] at htup
            exact ef_imp htup fun d hd => by
              obtain ⟨ds, rfl, hds⟩ := hd
              obtain ⟨ns, rfl, hl, hb⟩ := f2_nums hds
              rw [List.length_map, hrl] at hl
              exact ⟨ns, rfl, hl, hb⟩
        · obtain ⟨rows, rfl, hrl, hrw, hrb⟩ := f2_rows hF2
          rw [List.length_map] at hrl y7
          have hlp : l ≠ p := fun z => f6.some (z ▸ hl)
          have hlc : l ≠ c := fun z => by rw [z, f6.cells] at hl; cases hl
          obtain ⟨r0, hr0⟩ := get_of_lt (l := rows) (i := 0) (by omega)
          have hr0m := List.mem_of_getElem? hr0
          have hxl : xs.length = R.mv.length := by rw [hdx.len, List.length_map, hrl]
          have hr0l := hrw r0 hr0m
          have hbase := ok.base
          refine q_setD (K := K) (k := 0) (d := tI (0 :: r0.drop 1)) ((ed_cat (ds := [nI 0]) (es := (r0.map nI).drop 1) (ed_tup (ea_one ed_int) (Nat.le_of_ble_eq_true rfl)) (ed_from (k := 1) (ed_ixL (k := 0) (d := tI r0) (vv_var rfl) ⟨xs, hlx, hdx⟩ ed_int (by rw [List.getElem?_map, hr0]; rfl)) ed_int) (by simp; omega)).is (by simp [tI, List.map_drop]))
            (vv_var rfl) ed_int hlx (by omega) fun v0 H8 e8 hv0 => ?_
          have f8 := (f7.to e8).put (o := .lst (xs.set 0 v0)) hlp hlc
          have nt8 : NoTup H8 l := .lst (e8 _ _ hlx)
          have hL8 : Ls K (upd H8 l (.lst (xs.set 0 v0))) l ((rows.set 0 (0 :: r0.drop 1)).map tI) := ⟨xs.set 0 v0, upd_same, by rw [List.map_set]; exact ((hdx.to e8).set hv0 0).tx (.upd nt8)⟩
          have b68 : But p H6 (upd H8 l (.lst (xs.set 0 v0))) := (b7.trans (.of e8)).mut hl
          show tRet _ _ _ (upd H8 l (.lst (xs.set 0 v0)))
          generalize upd H8 l (.lst (xs.set 0 v0)) = H9 at f8 hL8 b68
          have t69 := b68.tx f6.noTup
          have h39 := d3.tx t69
          have hrl' : (rows.set 0 (0 :: r0.drop 1)).length = R.mv.length := by rw [List.length_set]; exact hrl
          obtain ⟨rs, hrs⟩ := get_of_lt (l := rows.set 0 (0 :: r0.drop 1)) (i := spot) (by omega)
          have hwide : ∀ r ∈ rows.set 0 (0 :: r0.drop 1), r.length = R.b := fun r hr => by
            rcases set_mem hr with rfl | hr
            · simp; omega
            · exact hrw r hr
          have hinn : ∀ r ∈ rows.set 0 (0 :: r0.drop 1), ∀ x ∈ r, x < R.mv.length + 1 := fun r hr x hx => by
            rcases set_mem hr with rfl | hr
            · rcases List.mem_cons.mp hx with rfl | hx
              · omega
              · exact hrb r0 hr0m x (List.mem_of_mem_drop hx)
            · exact hrb r hr x hx
          obtain ⟨y, hy⟩ := get_of_lt (l := R.sh) (i := spot) (by rw [ok.shl]; exact hspot)
          have hshl := ok.shl
          refine q_ret (K := K) (ed_tup (ds := [nI R.b, tII (rows.set 0 (0 :: r0.drop 1) ++ [rs]), tI (R.sh ++ [y])]) (ea_cons (ed_var rfl (.int _)) (ea_cons
            ((ed_cat (ds := (rows.set 0 (0 :: r0.drop 1)).map tI) (es := [tI rs]) (ed_tupLs (vv_var rfl) hL8) (ed_tup (ea_one (ed_ixL (k := spot) (vv_var rfl) hL8 (ed_var rfl (.int _)) (by rw [List.getElem?_map, hrs]; rfl))) (by simp)) (by simp; omega)).is (by simp [tII]))
            (ea_one ((ed_cat (ds := R.sh.map nI) (es := [nI y]) (ed_var rfl h39) (ed_tup (ea_one (ed_ixI (k := spot) (ed_var rfl h39) (ed_var rfl (.int _)) hy)) (by simp)) (by simp; omega)).is (by simp [tI]))))) (Nat.le_of_ble_eq_true rfl)) fun x H10 e10 hx => ?_
          refine k ⟨R.b, rows.set 0 (0 :: r0.drop 1) ++ [rs], R.sh ++ [y]⟩ x H10 n7 ((b03.trans (.of e36)).trans (b68.trans (.of e10))) (f8.to e10) (by omega) (by omega) ⟨⟨ok.base, by simp, fun r hr => ?_, fun r hr x hx => ?_, by simp; omega⟩, ?_⟩ rfl (by simp; omega) (fun x hx => ?_) hx
          · rcases List.mem_append.mp hr with hr | hr
            · exact hwide r hr
            · rw [List.mem_singleton.mp hr]; exact hwide rs (List.mem_of_getElem? hrs)
          · show x < (rows.set 0 (0 :: r0.drop 1) ++ [rs]).length
            rw [List.length_append, hrl', List.length_singleton]
            rcases List.mem_append.mp hr with hr | hr
            · exact hinn r hr x hx
            · rw [List.mem_singleton.mp hr] at hx; exact hinn rs (List.mem_of_getElem? hrs) x hx
          · have h0 : (rows.set 0 (0 :: r0.drop 1) ++ [rs])[0]? = some (0 :: r0.drop 1) := by
              rw [List.getElem?_append_left (by omega), List.getElem?_set, if_pos rfl, if_pos (by omega)]
            unfold Rd.row
            rw [getD_some h0]; rfl
          · rcases List.mem_append.mp (show x ∈ R.sh ++ [y] from hx) with hx | hx
            · have := hsh x hx; omega
            · rw [List.mem_singleton.mp hx]
              have := hsh y (List.mem_of_getElem? hy); omega
      · have e36 := e35.trans e6
        have f6 := f3.to e36
        have d2 := h2'.to e36
        have d3 := h3'.to e36
        refine q_un2LL (K := K) (ds := ((List.range (R.mv.length - 1)).map (· + 1)).map nI) (es := [0].map nI) (el_rg ed_int (ed_var rfl (.int _)) (by omega)) (el_lst (ea_one ed_int) (by simp)) fun l q vs ws H7 hl hq lq e7 hl7 hdl7 hq7 hdq7 => ?_
        have f7 := f6.to e7
        have ne_p : ∀ {a}, H6 a = none → a ≠ p := fun {a} ha z => f6.some (z ▸ ha)
        have ne_c : ∀ {a}, H6 a = none → a ≠ c := fun {a} ha z => by rw [z, f6.cells] at ha; cases ha
        refine q_rng (K := K) (m := R.mv.length - 1) (ea_one ((ed_I0 (a := (R.mv.length : Int)) (b := 1) (ed_var rfl (.int _)) ed_int).is (by show PyData.int _ = PyData.int _; congr 1; omega))) (by omega)
          (fun a σ' H' => ∃ o rest y11 m, σ' = [some (.ref p), some v, some (vN R.b), some v2, some v3, some (vN way), some (vN R.mv.length), some (vN spot), none, some (.ref l), some (.ref q), y11, none, none, none, none, none] ∧ But p H6 H' ∧ Feed H' p c cs m ∧ n3 ≤ m ∧ m ≤ n3 + a ∧
            Ls K H' l (rest.map nI) ∧ Ls K H' q (o.map nI) ∧ (o ++ rest).Perm (List.range R.mv.length) ∧ o[0]? = some 0 ∧ o.length = a + 1)
          (fun H8 e8 => ⟨[0], (List.range (R.mv.length - 1)).map (· + 1), none, n3, rfl, .of (e7.trans e8), f7.to e8, Nat.le_refl _, by omega, Ls.to ⟨vs, hl7, hdl7⟩ e8, Ls.to ⟨ws, hq7, hdq7⟩ e8, ?_, rfl, rfl⟩) (fun a σ' H8 ha hP => ?_) fun σ' H8 hP => ?_
        · have : List.range R.mv.length = 0 :: (List.range (R.mv.length - 1)).map (· + 1) := by
            obtain ⟨g, hg⟩ : ∃ g, R.mv.length = g + 1 := ⟨R.mv.length - 1, by omega⟩
            rw [hg, List.range_succ_eq_map]; rfl
          rw [this]; exact List.Perm.refl _
        · obtain ⟨o, rest, y11, m, rfl, b8, f8, m1, m2, hLl, hLq, hperm, ho0, hol⟩ := hP
          have hlen := hperm.length_eq
          rw [List.length_append, List.length_range] at hlen
          refine s_popDraw (K := K) f8 (by omega) hLl hLq (ne_p hl) (ne_c hl) (ne_p hq) (ne_c hq) (Ne.symm lq) (by omega) (by omega) (by omega) (fun _ => vv_var rfl) (fun _ => vv_var rfl) (fun _ => vv_var rfl) fun H9 i x hix f9 hLl9 hLq9 hb9 => ?_
          refine ⟨o ++ [x], rest.eraseIdx i, _, m + 1, rfl, hb9 H6 hl hq b8, f9, by omega, by omega, hLl9, hLq9, ?_, ?_, by simp [hol]⟩
          · rw [List.append_assoc]
            exact (List.Perm.append_left o (erase_perm hix)).trans hperm
          · rw [List.getElem?_append_left (by omega)]; exact ho0
        · obtain ⟨o, rest, y11, m, rfl, b8, f8, m1, m2, hLl, hLq, hperm, ho0, hol⟩ := hP
          have hlen := hperm.length_eq
          rw [List.length_append, List.length_range] at hlen
          have hrest : rest = [] := List.length_eq_zero_iff.mp (by omega)
          subst hrest
          rw [List.append_nil] at hperm
          have hol' : o.length = R.mv.length := by omega
          have hnd : o.Nodup := hperm.nodup_iff.mpr List.nodup_range
          have hin : ∀ {x : Nat}, x ∈ o ↔ x < R.mv.length := fun {x} => by rw [hperm.mem_iff]; exact List.mem_range
          obtain ⟨zP, sP, lP⟩ := perm_zero z hperm ho0
          have t68 := b8.tx f6.noTup
          have g2 := d2.tx t68
          have g3 := d3.tx t68
          refine q_New (en_dict (K := K) (xs := o) (f := fun x => nI (o.idxOf x)) (EvL.is (el_map (xs := List.range o.length) (f := fun k => PyData.tuple [nI (o.getD k 0), nI k]) (src_rng (m := o.length) (ea_one (by rw [hol']; exact ed_var rfl (.int _))) (by omega)) (by simp; omega) (fun _ => rfl) fun z H9 hz e9 =>
            ed_pair (ed_ixLI (vv_var rfl) (hLq.to e9) (ed_var rfl (.int _)) (by
              obtain ⟨y, hy⟩ := get_of_lt (l := o) (i := z) (by simpa using hz)
              rw [getD_some hy]; exact hy)) (ed_var rfl (.int _))) (spot_list hnd))) fun t H9 ht e9 hD9 => ?_
          refine q_D (K := K) (d := tII (R.perm o).mv) ((ed_tupL (el_map (xs := o) (f := fun p => tI ((R.row p).map fun x => o.idxOf x)) (src_list (vv_var rfl) (hLq.to e9)) (by omega) (fun _ => rfl) fun z H10 hz e10 =>
            ed_row (xs := R.row z) (src_tup (ds := (R.row z).map nI) (ed_rowV (ed_var rfl ((g2.to e9).to e10)) (ed_var rfl (.int _)) (hin.mp hz))) (by rw [ok.row_len (hin.mp hz)]; omega) (fun _ => rfl) fun y H11 hy e11 =>
              ed_dks (x := y) (vv_var rfl) ((hD9.to e10).to e11) (ed_var rfl (.int _)) (hin.mpr (ok.row_lt (hin.mp hz) y hy)))).is (by simp [tII, Rd.perm, List.map_map, Function.comp_def])) fun v8 H10 e10 h8 => ?_
          have e8 := e9.trans e10
          refine q_ret (K := K) (ed_tup (ds := [nI R.b, tII (R.perm o).mv, tI (R.perm o).sh]) (ea_cons (ed_var rfl (.int _)) (ea_cons (ed_var rfl h8) (ea_one (ed_row (xs := o) (f := R.show) (src_list (vv_var rfl) (hLq.to e8)) (by omega) (fun _ => rfl) fun z H11 hz e11 =>
            ed_showV ok (ed_var rfl ((g3.to e8).to e11)) (ed_var rfl (.int _)) (hin.mp hz))))) (Nat.le_of_ble_eq_true rfl)) fun x H11 e11 hx => ?_
          exact k (R.perm o) x H11 m ((b03.trans (.of e36)).trans (b8.trans (.of (e8.trans e11)))) (f8.to (e8.trans e11)) (by omega) (by omega) zP rfl (by omega) (fun x hx => by have := hsh x (sP x hx); omega) hx
end
end K63
/-! K63Guard: promises that hold where no repr is under way (own form of the layer's promise, of its call, of its head). -/
namespace K63
open PySem PySem.Spec PyProof.Rows L2 RZ
/-- a def keeps its promise wherever no display is being written -/
structure FnG (P : Program) (w : World) (K : PySem.W.Frag) (mg : Str → Option Value) (base : Heap) (k : Nat) (f : Addr) (fd : FuncData) (ps : List Str) (sp : Sp) : Prop where
  many : ∀ vs H Q E, sp vs H Q E → vs.length = ps.length
  goes : ∀ (A : Around) (out : List Env) (s : Shared) (H : Hp) (args : Args) (us : List Value) (vs : List V) (Q : VK) (E : XK), A.guards = some [] → Room k A →
    Env0 P w K mg base A out s H → BindsTo s fd args (ps.zip us) → Vals vs us → sp vs H Q E → codeAny (model P w) A (.call (.ref f) args) (CR CX0 out P w H s Q E) s
theorem Fun.okG {P : Program} {w : World} {K : PySem.W.Frag} {mg : Str → Option Value} {base : Heap} {x qual : Str} {st : Stmt} {f : Addr} {fd : FuncData} {N ps : List Str} {k : Nat} {sp : Sp} (F : Fun K x qual st f fd) (S : FnScope N ps (defScope st))
    (many : ∀ vs H Q E, sp vs H Q E → vs.length = ps.length)
    (body : ∀ (cdv : Value) (A : Around) (out : List Env) (s : Shared) (H : Hp) (vs : List V) (Q : VK) (E : XK), A.guards = some [] → Room k (A.deeper (envOfC qual (defScope st) s.heap.objs.size f cdv)) → sp vs H Q E →
      ∃ t, PSs (cxOf CX0 P w K mg base N qual (defScope st) f cdv A out s H E).nox (defBody st) t ∧ t { nx := fun _ H1 => Q .non H1, rt := Q } (start N vs) H) : FnG P w K mg base (k + 1) f fd ps sp := by
  obtain ⟨oc, od, kV, doc, pm, an, cdv, ct, osl, rfl, look, code⟩ := F.ex
  refine ⟨many, fun A out s H args us vs Q E gd room env bind rel prom => ?_⟩
  have size := many vs H Q E prom
  have kept : ∀ b o, base.get? b = some o → s.heap.get? b = some o := fun b o q => (env.bs b o q).1
  have inK : K.In s.heap := env.mod.kin.keeps kept
  have unlim : s.heap.NoLimit := env.mod.nolimit.keeps kept
  have kinds : ∀ y ∈ ps.zip us, (defScope st).names.lookup y.1 = some .local ∨ ((defScope st).names.lookup y.1 = some .cell ∧ ((cellsFrom (s.heap.objs.size + 1) (defScope st).names []).lookup y.1).isSome = true) := fun y hy =>
    (S.par y.1 (List.of_mem_zip (a := y.1) (b := y.2) hy).1).imp id fun c => ⟨c, PySem.W.cellsFrom_some _ _ _ (.inl c)⟩
  refine codeAny_call_function room.depth (inK _ _ look) rfl S.co S.gen rfl (PySem.W.codeRec_of inK code) (bind _ _ _ _ (wpAny_newFunctionEnv_cells S.kind kinds fun env' eq s2 entered => ?_))
  cases eq
  obtain ⟨t, ht, hgo⟩ := body cdv A out s H vs Q E gd (room.deeper _) prom
  have inv := inv_start (CX := CX0) S room.hd env size rel entered (E := E)
  refine ⟨unlim.keeps entered.toInCall.keep, codeAny_func (wpAny_mono ((PSs.nox ht).run [] s2 (start N vs) H _ inv hgo) (fun fl s3 end3 => ?_) fun _ _ bad => bad)⟩
  cases fl with
  | ret u => obtain ⟨v, σ3, H3, inv3, rv, goal⟩ := end3; exact ⟨v, H3, inv3.os, inv3.bare, inv3.base, inv3.hok, rv, goal⟩
  | next => obtain ⟨σ3, H3, inv3, goal⟩ := end3; exact ⟨V.non, H3, inv3.os, inv3.bare, inv3.base, inv3.hok, rfl, goal⟩
  | brk => obtain ⟨_, _, _, no⟩ := end3; exact no.elim
  | cont => obtain ⟨_, _, _, no⟩ := end3; exact no.elim
/-- such a callee -/
structure CalG (P : Program) (w : World) (K : PySem.W.Frag) (mg : Str → Option Value) (base : Heap) (x : Str) (k : Nat) (ps : List Str) (sp : Sp) : Prop where
  ex : ∃ (f : Addr) (fd : FuncData), FnG P w K mg base k f fd ps sp ∧ mg x = some (.ref f) ∧ PySem.W.keepIn K (.ref f) = true ∧ Binds K fd ps []
theorem pe_callG {X : Cx} {x : Str} {k : Nat} {ps : List Str} {sp : Sp} {e : Expr} {es : List Expr} {t : TA} {p pos : Pos} (c : CalG X.prog X.w X.K X.mg X.base x k ps sp) (gd : X.A.guards = some []) (room : Room k X.A) (hg : Gl X x) (ha : PA X (e :: es) t)
    (hdb : (x == ("__debug__" : Str)) = false := by decide) (he : starEach (e :: es) X.env = (false, eval e X.env) :: starEach es X.env := by rfl) (hpl : (backTo pos (starEach es X.env)).any (·.1) = false := by rfl) :
    PE X (.Call (.Name x p) (e :: es) [] pos) (tCall sp [] E0 t) := by
  obtain ⟨f, fd, F, here, keep, bind⟩ := c.ex
  refine ⟨fun pins s σ H Q inv want => wpAny_Call_Name_kw (ld_glob inv hg here ?_ hdb)⟩
  refine PySem.W.callWith_K (h₀ := X.base) inv.ok.mod.kin keep (thn (ha.run pos pins s σ H _ inv want) fun us s1 ⟨vs, H1, inv1, rel, go⟩ => ⟨inv1.kIn, ?_⟩) he hpl
  have go' : sp vs H1 Q E0 := by simpa using go
  have size : us.length = ps.length := by rw [← rel.length]; exact F.many _ _ _ _ go'
  refine wpAny_call (codeAny_mono (F.goes X.A X.stack s1 H1 ⟨us, []⟩ us vs Q E0 gd room inv1.env0 (by have := bind s1 us inv1.kIn (by simpa using size); simpa using this) rel go') fun r s2 out => ?_)
  cases r with
  | error e => exact (pass0 (X := X) pins σ H1 s1 e s2 inv1 out)
  | ok fl => cases fl with
    | ret u => exact inv1.after out
    | next => exact out.elim
    | brk => exact out.elim
    | cont => exact out.elim
/-! ### the head -/
theorem callG {P : Program} {w : World} {K : PySem.W.Frag} {mg mb : Str → Option Value} {k : Nat} {fa a : Addr} {fd : FuncData} {x : Str} {sp : Sp} {t : Shared} {vs : List Value} {ns : List Int}
    (inK : K.In t.heap) (names : t.heap.Ns mainGlobals mg) (bltn : t.heap.Ns builtinsNs mb) (same : ∀ y : Str, y ≠ "__name__" → mb y = bootBuiltins y) (unlim : t.heap.NoLimit) (gens : t.gens = #[])
    (script : t.heap.get? a = some { cls := .type "list", data := .seq vs.toArray }) (nums : IntsAre vs ns) (short : ns.length ≤ sizeLine) (room : Room k callerA)
    (F : ∀ base : Heap, K.In base → base.Ns mainGlobals mg → FnG P w K mg base k fa fd [x] sp) (bind : ∀ (s : Shared) (u : Value), BindsTo s fd ⟨[u], []⟩ [(x, u)])
    (prom : ∀ H : Hp, SqL K H a (ns.map V.int) → sp [.ref a] H (fun v _ => v = .bl true) fun _ _ _ => False) :
    codeAny (model P w) callerA (.call (.ref fa) ⟨[.ref a], []⟩) (fun r s2 => r = .ok (.ret (.bool true)) ∧ OldK t.heap s2.heap ∧ s2.os = t.os ∧ AllBare s2.gens) t := by
  have rel := vals_ints nums
  have run : ∀ H : Hp, Only H → SqL K H a (ns.map V.int) → HOk P w H t.heap → (∀ b, H b ≠ none → b = a) → (H a ≠ none → K.lookup a = none) →
      codeAny (model P w) callerA (.call (.ref fa) ⟨[.ref a], []⟩) (fun r s2 => r = .ok (.ret (.bool true)) ∧ OldK t.heap s2.heap ∧ s2.os = t.os ∧ AllBare s2.gens) t := by
    intro H lone seq fits one own
    have dicts : ∀ {b : Addr} {o : Obj} {es : Array DictEntry} {ep : Nat}, t.heap.get? b = some o → o.data = .dict es ep → H b = none := fun {b o es ep} here isd => by
      cases z : H b with
      | none => rfl
      | some g =>
        obtain rfl : b = a := one b (by rw [z]; simp)
        rw [script] at here; cases here
        have bad : Data.seq vs.toArray _ = Data.dict es ep := isd
        cases bad
    have ns2 : ∀ {b : Addr} {m : Str → Option Value}, t.heap.Ns b m → (hidT t.heap H).Ns b m := fun {b m} ⟨o, es, ep, here, isd, r⟩ => ⟨o, es, ep, hidT_get here (dicts here isd), isd, r⟩
    have in2 : K.In (hidT t.heap H) := fun b o here => hidT_get (inK b o here) (by
      cases z : H b with
      | none => rfl
      | some g =>
        obtain rfl : b = a := one b (by rw [z]; simp)
        rw [own (by rw [z]; simp)] at here; cases here)
    have md : Mod K mg (hidT t.heap H) := ⟨in2, ns2 names, ⟨mb, ns2 bltn, same⟩, let ⟨mc, u1, u2⟩ := unlim; ⟨mc, ns2 u1, u2⟩⟩
    have ev : Env0 P w K mg (hidT t.heap H) callerA [] t H := ⟨rfl, md, fun b o here => of_hidT here, Nat.le_of_eq (hidT_size _ _), trivial, fun b hb => absurd (show b ∈ ([] : List Addr) from hb) (by simp), fits, .of_eq gens⟩
    refine codeAny_mono ((F _ in2 (ns2 names)).goes callerA [] t H ⟨[.ref a], []⟩ [.ref a] [.ref a] _ _ rfl room ev (bind t (.ref a)) (.cons rfl .nil) (prom H seq)) fun r s2 out => ?_
    cases r with
    | error e => exact (show False from out).elim
    | ok fl => cases fl with
      | next => exact (show False from out).elim
      | brk => exact (show False from out).elim
      | cont => exact (show False from out).elim
      | ret u =>
        obtain ⟨v, H2, o2, bare, un, fits2, rv, isT⟩ := out
        obtain rfl : v = .bl true := isT
        obtain rfl : u = Value.bool true := rv
        refine ⟨rfl, OldK.of_keep fun b o here => ?_, o2, bare⟩
        cases z : H b with
        | none => exact un.keep b o here z (fun q => absurd (show b ∈ ([] : List Addr) from q) (by simp)) (by simp)
        | some g =>
          rcases lone b with q | ⟨ob, xs, q⟩
          · rw [z] at q; cases q
          · obtain ⟨w1, _⟩ := fits b _ q
            obtain ⟨w2, _⟩ := fits2 b _ (un.frzs b ob _ q)
            rw [here] at w1; cases w1
            exact w2
  cases z : K.lookup a with
  | some o =>
    have here := inK a o z
    rw [script] at here
    cases here
    exact run (fun _ => none) (fun _ => .inl rfl) (.inr ⟨_, vs.toArray, _, z, rfl, rfl, rfl, by rw [List.size_toArray, nums.length]; exact short, by simpa using rel⟩) (fun b u q => nomatch (show (none : Option HO) = some u from q)) (fun b q => absurd rfl q) fun q => absurd rfl q
  | none =>
    let fr : HO := .frz { cls := .type "list", data := .seq vs.toArray } (.lst (ns.map V.int))
    have at_a : ∀ {b : Addr}, b = a → (fun b : Addr => if b = a then some fr else none) b = some fr := fun {b} e => if_pos e
    have off_a : ∀ {b : Addr}, ¬ b = a → (fun b : Addr => if b = a then some fr else none) b = none := fun {b} e => if_neg e
    refine run (fun b => if b = a then some fr else none) (fun b => ?_) (.inl (.inr ⟨_, at_a rfl⟩)) (fun b u q => ?_) (fun b q => Classical.byContradiction fun e => q (off_a e)) fun _ => z
    · exact (Classical.em (b = a)).elim (fun e => .inr ⟨_, _, at_a e⟩) fun e => .inl (off_a e)
    · rcases Classical.em (b = a) with e | e
      · have q2 := (at_a e).symm.trans q
        cases q2
        subst e
        exact ⟨script, by rw [List.length_map]; exact short, vs, _, rel, script⟩
      · have q2 := (off_a e).symm.trans q
        cases q2
theorem walkG {l : PySem.W.OpenLaw} {n k : Nat} {q : Program} {loose : List Str} {XP : (Str → Option Value) → Heap → Prop} {YP : World → Heap → Prop} {d : DefRec} {K : Params → PySem.W.Frag} {sp : World → Sp} {x : Str}
    (most : l.most = some n) (small : n ≤ sizeLine) (plain : d.params.defaults = []) (room : Room k callerA) (isIn : ∀ (w : World) (h : Heap), YP w h → (K w.params).In h)
    (F : ∀ (w : World) (mg : Str → Option Value) (fa : Addr) (h : Heap), (K w.params).In h → h.Ns mainGlobals mg → mg d.name = some (.ref fa) →
      ∃ fd : FuncData, (∀ (s : Shared) (u : Value), BindsTo s fd ⟨[u], []⟩ [(x, u)]) ∧ ∀ base : Heap, (K w.params).In base → base.Ns mainGlobals mg → FnG l.prog w (K w.params) mg base k fa fd [x] (sp w))
    (prom : ∀ (w : World) (H : Hp) (a : Addr) (ns : List Int), SqL (K w.params) H a (ns.map V.int) → sp w [.ref a] H (fun v _ => v = .bl true) fun _ _ _ => False) :
    PySem.W.WalkO q loose XP YP l.row.toRowW d [] (fun f vs => PySem.call f vs) := by
  refine Att.attach_call most plain fun w s₀ t mg mb fa o pm cd doc a vs ns G Y ho hd hcd named obj nums len gens => ?_
  have inK := isIn w _ Y
  obtain ⟨fd, bind, H⟩ := F w mg fa _ inK G.T.g named
  exact callG inK G.T.g G.T.b G.T.builtins G.T.nolimit gens obj nums (Nat.le_trans len small) room H bind fun H seq => prom w H a ns seq
end K63
/-! K63Work4: least_of. -/
namespace K63
open PySem PySem.Spec PyProof.Rows L2 RZ
def pLeast (ds : List PyData) (r : PyData) : Prop := ∃ R : Rd, ds = [tR R] ∧ R.Ok ∧ Small R ∧ r = tR (leastP R)
theorem small_trim {R : Rd} (ok : R.Ok) (sm : Small R) : Small R.trim := by
  refine ⟨sm.b, ?_, fun x hx => ?_⟩
  · rw [Rd.trim_len]
    have := ok.done.short
    have := sm.n
    show R.o.length ≤ 60
    show (R.mac.ord R.mv.length).length ≤ 60
    omega
  · rw [Rd.trim_sh] at hx
    obtain ⟨p, hp, rfl⟩ := List.mem_map.mp hx
    exact sm.s _ (getD_mem (by rw [ok.shl]; exact ok.o_lt p hp))
theorem many_max {T : Rd} (h : T.Ok) (k : Nat) : ∃ m, many (kindsAt T k) = m + 1 ∧ m ∈ kindsAt T k ∧ ∀ y ∈ kindsAt T k, y ≤ m := by
  have hp := many_pos h k
  have e := kinds_named T k
  refine ⟨many (kindsAt T k) - 1, by omega, ?_, fun y hy => ?_⟩
  · have : many (kindsAt T k) - 1 ∈ named (kindsAt T k) := named_onto (by show _ < many _; omega)
    rw [e] at this; exact this
  · rw [← e] at hy
    have : y < many (kindsAt T k) := named_lt hy
    omega
theorem kinds_lt {T : Rd} (h : T.Ok) (k : Nat) {y : Nat} (hy : y ∈ kindsAt T k) : y < many (kindsAt T k) := by
  rw [← kinds_named T k] at hy; exact named_lt hy
theorem kinds_onto {T : Rd} (k : Nat) {y : Nat} (hy : y < many (kindsAt T k)) : y ∈ kindsAt T k := by
  have : y ∈ named (kindsAt T k) := named_onto hy
  rw [kinds_named] at this; exact this
section
variable {P : Program} {w : World} {K : PySem.W.Frag} {mg : Str → Option Value} {base : Heap} {H H' : Hp}
theorem el_callN {σ : L2.St} {ta : TE} {xs : List (Nat × List Nat)} {E : XK} (h : EvL K ta σ H (xs.map kd)) (hx : xs.length ≤ 60) : EvL K (tCall (spNam K) [] E (tCons ta tNil)) σ H ((named xs).map nI) := fun H1 e Q q =>
  h H1 e _ fun p vs H2 hp e2 h2 hd => ⟨p, xs, rfl, ⟨vs, h2, hd⟩, hx, fun l us H3 hl e3 h3 hd3 => q l us H3 (e2.free hl) (e2.trans e3) h3 hd3⟩
/-- the row [kinds[late] for late in moves[place]] -/
theorem el_kinds {σ : L2.St} {tl : TE} {ns ks : List Nat} {wi : TI} {j : Nat} {vs : List Nat} {q : Addr} (hs : Src K wi σ H (ns.map nI)) (hz : ns.length ≤ 40000) (hL : Ls K H q (ks.map nI)) (hn : ∀ x ∈ ns, x < ks.length)
    (hw : ∀ x, wipe ((wipe σ vs).set j (some x)) vs = wipe σ vs) (ht : ∀ x H1, EvV tl ((wipe σ vs).set j (some x)) H1 (.ref q)) (hj : ∀ x : V, ((wipe σ vs).set j (some x))[j]? = some (some x)) :
    EvL K (tLc wi (gName j) tYes (tOp (rIxL K) tl (tVar j)) vs) σ H ((ns.map fun x => ks.getD x 0).map nI) :=
  el_comp hs (by simp) (by rw [List.length_map]; exact hz) hw fun i d r x H1 hd hr e1 hx => by
    rw [List.getElem?_map] at hd
    cases e : ns[i]? with
    | none => rw [e] at hd; cases hd
    | some z =>
      rw [e] at hd
      obtain rfl : nI z = d := Option.some.inj hd
      have : r = nI (ks.getD z 0) := by
        simp [e] at hr
        rw [← hr]
        show PyData.int _ = PyData.int _
        simp [List.getD]
      subst this
      obtain ⟨y, hy⟩ := get_of_lt (hn z (List.mem_of_getElem? e))
      rw [getD_some hy]
      exact ed_ixLI (ht x H1) (hL.to e1) (ed_var (hj x) hx) hy
abbrev s_least_of : Stmt := topS 23
theorem sc_least_of : FnScope ["reader", "base", "moves", "shows", "kinds", "many", "firsts", "rows", "kind", "place", "late", "row"] ["reader"] (defScope s_least_of) := ⟨rfl, rfl, rfl, by decide +kernel, rfl, by decide +kernel, by decide +kernel⟩
-- 0 reader, 1 base, 2 moves, 3 shows, 4 kinds, 5 many, 6 firsts, 7 rows, 8 kind, 9 place, 10 late, 11 row
theorem ok_least_of (B : Bn mg) (c_trimmed : Cal P w K mg base "trimmed" 2 ["reader"] [] (spD K pTrim)) (c_made_of : Cal P w K mg base "made_of" 1 ["base", "rows", "shows"] [] (spMade K)) (c_namedI : Cal P w K mg base "named_as_met" 1 ["things"] [] (spL K pNamI))
    (c_namedN : Cal P w K mg base "named_as_met" 1 ["things"] [] (spNam K)) {f : Addr} {fd : FuncData} (F : Fun K "least_of" "least_of" s_least_of f fd) : FnOk P w K mg base CX0 3 f fd ["reader"] (spD K pLeast) := by
  refine F.ok sc_least_of (fun vs H Q E h => spD_len (n := 1) (fun ds r p => by obtain ⟨R, rfl, _⟩ := p; rfl) h) (fun cdv A outer s H vs Q E hr h => ?_)
  obtain ⟨ds, r, hd, ⟨R, rfl, ok, sm, rfl⟩, kk⟩ := h
  obtain ⟨v, rfl, hv⟩ := hd.inv1
  have hu := room_u hr
  refine ⟨_, (pss_cons (ps_asg (pe_callC c_trimmed (hr.mono (by decide)) (by rfl) (pa_cons (pv 0) pa_nil)) (k_pgt K (n := 3) rfl (pgs_cons (pg_name (i := 1) sc_least_of.nd rfl (Or.inl rfl)) (pgs_cons (pg_name (i := 2) sc_least_of.nd rfl (Or.inr rfl)) (pgs_cons (pg_name (i := 3) sc_least_of.nd rfl (Or.inr rfl)) pgs_nil)))))
      (pss_cons (ps_asg (pe_tup (pa_cons (pe_callC c_namedI (hr.mono (by decide)) (by rfl) (pa_cons (pv 3) pa_nil)) (pa_cons pe_int pa_nil))) (k_pgt K (n := 2) rfl (pgs_cons (pg_name (i := 4) sc_least_of.nd rfl (Or.inr rfl)) (pgs_cons (pg_name (i := 5) sc_least_of.nd rfl (Or.inl rfl)) pgs_nil))))
      (pss_cons (ps_while PassesOwn.never (pt_cmpR op_gt (pe_op op_add (pe_callB (k_max K) (by rfl) B.max boot_max (pa_cons (pv 4) pa_nil)) pe_int) (pv 5) (nomark _))
      (pss_cons (ps_set (i := 5) sc_least_of.nd rfl (Or.inl rfl) (pe_op op_add (pe_callB (k_max K) (by rfl) B.max boot_max (pa_cons (pv 4) pa_nil)) pe_int))
      (pss_one (ps_set (i := 4) sc_least_of.nd rfl (Or.inr rfl) (pe_callC c_namedN (hr.mono (by decide)) (by rfl) (pa_cons (pe_lc (own := [("kind", 8), ("row", 11)]) rfl sc_least_of.nd (k_zipM K (by rfl) B.zip (pa_cons (pv 4) (pa_cons (pv 2) pa_nil))) (blkOk_by (by kernel_rfl)) (fun _ _ _ _ _ => (k_pgt K (n := 2) rfl (pgs_cons (pg_name (i := 8) sc_least_of.nd rfl (Or.inl rfl)) (pgs_cons (pg_name (i := 11) sc_least_of.nd rfl (Or.inl rfl)) pgs_nil)))) (fun _ _ _ _ _ => pts_nil) (fun _ _ _ _ _ => (pe_tup (pa_cons (pv 8) (pa_cons (pe_callTy (k_tup K) (by rfl) B.tuple boot_tuple (pa_cons (pe_lc (own := [("late", 10)]) rfl sc_least_of.nd (k_pit K (pv 11)) (blkOk_by (by kernel_rfl)) (fun _ _ _ _ _ => (pg_name (i := 10) sc_least_of.nd rfl (Or.inl rfl))) (fun _ _ _ _ _ => pts_nil) (fun _ _ _ _ _ => (pe_ix (k_ixL K) (pv 4) (pv 10) (fun _ _ => rfl)))) pa_nil)) pa_nil))))) pa_nil))))))
      (pss_cons (ps_setLc (i := 6) (own := [("kind", 8)]) rfl sc_least_of.nd rfl rfl (sw_true rfl rfl rfl (by decide +kernel)) (pi_range1 (by rfl) B.range (pa_cons (pv 5) pa_nil)) (blkOk_by (by kernel_rfl)) (fun _ _ _ _ _ => (pg_name (i := 8) sc_least_of.nd rfl (Or.inl rfl))) (fun _ _ _ _ _ => pts_nil) (fun _ _ _ _ _ => (k_bm K PySem.F.plainAttrs_list PySem.F.slot_list_index PySem.F.type_list_index (k_index K) (pv 4) (pa_cons (pv 8) pa_nil))))
      (pss_cons (ps_setLc (i := 7) (own := [("place", 9)]) rfl sc_least_of.nd rfl rfl (sw_true rfl rfl rfl (by decide +kernel)) (k_pil K (pv 6)) (blkOk_by (by kernel_rfl)) (fun _ _ _ _ _ => (pg_name (i := 9) sc_least_of.nd rfl (Or.inl rfl))) (fun _ _ _ _ _ => pts_nil) (fun _ _ _ _ _ => (pe_lc (own := [("late", 10)]) rfl sc_least_of.nd (k_pit K (pe_ix (k_ixT K) (pv 2) (pv 9) (fun _ _ => rfl))) (blkOk_by (by kernel_rfl)) (fun _ _ _ _ _ => (pg_name (i := 10) sc_least_of.nd rfl (Or.inl rfl))) (fun _ _ _ _ _ => pts_nil) (fun _ _ _ _ _ => (pe_ix (k_ixL K) (pv 4) (pv 10) (fun _ _ => rfl))))))
      (pss_one (ps_ret (pe_callC c_trimmed (hr.mono (by decide)) (by rfl) (pa_cons (pe_callC c_made_of (hr.mono (by decide)) (by rfl) (pa_cons (pv 1) (pa_cons (pv 7) (pa_cons (pe_lc (own := [("place", 9)]) rfl sc_least_of.nd (k_pil K (pv 6)) (blkOk_by (by kernel_rfl)) (fun _ _ _ _ _ => (pg_name (i := 9) sc_least_of.nd rfl (Or.inl rfl))) (fun _ _ _ _ _ => pts_nil) (fun _ _ _ _ _ => (pe_ix (k_ixT K) (pv 3) (pv 9) (fun _ _ => rfl)))) pa_nil)))) pa_nil))))))))), ?_⟩
  have tok := ok.trim_ok
  have tsm := small_trim ok sm
  have hn := tsm.n
  have hb := tsm.b
  refine q_un3 (K := K) (ed_call0 (ea_one (ed_var rfl hv)) ⟨R, rfl, ok, sm, rfl⟩) fun v1 v2 v3 H1 e1 h1 h2 h3 => ?_
  have k0 : kindsAt R.trim 0 = named R.trim.sh := rfl
  refine q_un2LD (d := nI 0) (el_call (rs := (kindsAt R.trim 0).map nI) (ea_one (ed_var rfl h3)) ⟨R.trim.sh, rfl, by rw [tok.shl]; exact hn, by rw [k0]⟩) ed_int fun p vs c0 H2 hp e2 hl2 hd2 hc2 => ?_
  cases hc2.inv_int
  refine q_while (fun m σ' H' => ∃ (j c : Nat) (p : Addr), σ' = [some v, some v1, some v2, some v3, some (.ref p), some (vN c), none, none, none, none, none, none] ∧ Same H1 H' ∧ Ls K H' p ((kindsAt R.trim j).map nI) ∧
      (j = 0 ∧ c = 0 ∨ ∃ i, j = i + 1 ∧ c = many (kindsAt R.trim i)) ∧ m = R.trim.mv.length + 1 - c) (R.trim.mv.length + 1)
    ⟨0, 0, p, rfl, e2, ⟨vs, hl2, hd2⟩, .inl ⟨rfl, rfl⟩, by omega⟩ fun m σ' H' hw => ?_
  obtain ⟨j, c, p, rfl, eH, hL, hj, rfl⟩ := hw
  obtain ⟨mx, hmx, hmem, hall⟩ := many_max tok j
  have hmle := many_le tok j
  have hjl := kinds_len tok j
  refine ⟨decide (c < mx + 1), et_test (K := K) (ed_gtN (ed_add (b := 1) (ed_max (vv_var rfl) hL hmem hall) ed_int) (ed_var rfl (.int _))), fun hm H4 e4 => ?_, fun hm H4 e4 => ?_⟩
  · have hm := of_decide_eq_true hm
    refine q_N (K := K) (ed_add (b := 1) (ed_max (vv_var rfl) (hL.to e4) hmem hall) ed_int) fun H5 e5 => ?_
    have e15 := (eH.trans e4).trans e5
    have hL5 := (hL.to e4).to e5
    have hzl : (pairsD ((kindsAt R.trim j).map nI) (R.trim.mv.map tI)).length = R.trim.mv.length := by
      unfold pairsD; simp [hjl]
    have hkl : (kindsOf R.trim (kindsAt R.trim j)).length = R.trim.mv.length := by simp [kindsOf, hjl]
    refine s_L (el_callN (xs := kindsOf R.trim (kindsAt R.trim j)) (el_comp2 (ps := pairsD ((kindsAt R.trim j).map nI) (R.trim.mv.map tI)) (src_zipM (vv_var rfl) hL5 (ed_var rfl (h2.to e15)) (by simp [hjl]))
      (by rw [List.length_map, hkl, hzl]) (by rw [hzl]; omega) (fun _ _ => rfl) fun i d1 d2 r x y H6 hd hr e6 hx hy => ?_) (by rw [hkl]; exact hn)) fun p6 vs6 H6 hp6 e6 h6 hd6 => ?_
    · unfold pairsD at hd
      rw [List.getElem?_zip_eq_some] at hd
      obtain ⟨hd1, hd2⟩ := hd
      simp only [List.getElem?_map] at hd1 hd2
      cases ea : (kindsAt R.trim j)[i]? with
      | none => simp [ea] at hd1
      | some a =>
        cases eb : R.trim.mv[i]? with
        | none => simp [eb] at hd2
        | some b =>
          rw [ea] at hd1
          rw [eb] at hd2
          obtain rfl : nI a = d1 := Option.some.inj hd1
          obtain rfl : tI b = d2 := Option.some.inj hd2
          rw [List.getElem?_map, kindsOf_get ea eb] at hr
          obtain rfl : kd (a, b.map fun q => (kindsAt R.trim j).getD q 0) = r := Option.some.inj hr
          have hbm := List.mem_of_getElem? eb
          exact ed_tup (ea_cons (ed_var rfl hx) (ea_one (ed_tupL (el_kinds (src_tup (ed_var rfl hy)) (by rw [tok.wide b hbm]; omega) (hL5.to e6) (fun x hx => by rw [hjl]; exact tok.inn b hbm x hx) (fun _ => rfl) (fun _ _ => vv_var rfl) (fun _ => rfl))))) (Nat.le_of_ble_eq_true rfl)
    · refine ⟨_, ?_, j + 1, mx + 1, p6, rfl, e15.trans e6, ⟨vs6, h6, hd6⟩, .inr ⟨j, rfl, hmx.symm⟩, rfl⟩
      omega
  · have hm := of_decide_eq_false hm
    obtain ⟨i, rfl, rfl⟩ : ∃ i, j = i + 1 ∧ c = many (kindsAt R.trim i) := by
      rcases hj with ⟨_, rfl⟩ | h
      · omega
      · exact h
    have hend := kinds_end tok (k := i) (by omega)
    have hks : kindsAt R.trim (i + 1) = R.ks := hend.1
    have hks' : kindsAt R.trim i = R.ks := hend.2
    rw [hks] at hL hmle
    rw [hks']
    have hkl := ks_len ok
    have hL4 := hL.to e4
    have e14 := eH.trans e4
    refine q_L (K := K) (ds := ((List.range (many R.ks)).map fun k => R.ks.idxOf k).map nI) (el_comp (src_rng (m := many R.ks) (ea_one (ed_var rfl (.int _))) (by omega)) (by simp) (by simp; omega) (fun _ => rfl) fun i d r x H5 hd hr e5 hx => ?_) fun pf vsf H5 hpf e5 hf hdf => ?_
    · rw [List.getElem?_map] at hd
      cases ei : (List.range (many R.ks))[i]? with
      | none => rw [ei] at hd; cases hd
      | some z =>
        rw [ei] at hd
        obtain rfl : nI z = d := Option.some.inj hd
        have : r = nI (R.ks.idxOf z) := by
          rw [List.getElem?_map, List.getElem?_map, ei] at hr
          exact (Option.some.inj hr).symm
        subst this
        exact ed_index (vv_var rfl) (hL4.to e5) (ed_var rfl hx) (ks_onto ok (by simpa using List.mem_of_getElem? ei))
    · have hF : Ls K H5 pf (((List.range (many R.ks)).map fun k => R.ks.idxOf k).map nI) := ⟨vsf, hf, hdf⟩
      have hfin : ∀ x ∈ (List.range (many R.ks)).map fun k => R.ks.idxOf k, x < R.trim.mv.length := fun x hx => by
        obtain ⟨k, hk, rfl⟩ := List.mem_map.mp hx
        rw [Rd.trim_len]
        exact ofKinds_in ok (by simpa using hk)
      have e15 := e14.trans e5
      have hLL5 := hL4.to e5
      refine q_LL (K := K) (dss := ((List.range (many R.ks)).map fun k => R.ks.idxOf k).map fun p => ((R.trim.row p).map fun q => R.ks.getD q 0).map nI) (ell_comp (src_list (vv_var rfl) hF) (by simp) (by simp; omega) fun i r x H6 hr e6 hP T hT => ?_) fun pr H6 hpr e6 hLL => ?_
      · obtain ⟨d, hd, hx⟩ := hP
        refine hT _ rfl ?_
        rw [List.getElem?_map] at hd hr
        cases ei : ((List.range (many R.ks)).map fun k => R.ks.idxOf k)[i]? with
        | none => rw [ei] at hd; cases hd
        | some z =>
          rw [ei] at hd hr
          obtain rfl : nI z = d := Option.some.inj hd
          obtain rfl := Option.some.inj hr
          have hz := hfin z (List.mem_of_getElem? ei)
          obtain ⟨rw0, hrow⟩ := get_of_lt hz
          have hrow' : R.trim.row z = rw0 := getD_some hrow
          show EvL K _ _ H6 (((R.trim.row z).map fun q => R.ks.getD q 0).map nI)
          rw [hrow']
          have hmem := List.mem_of_getElem? hrow
          exact el_kinds (src_tup (ds := rw0.map nI) (ed_ixII (ed_var rfl ((h2.to e15).to e6)) (ed_var rfl hx) hrow)) (by rw [tok.wide _ hmem]; omega) (hLL5.to e6) (fun x hx => by rw [hkl, ← Rd.trim_len]; exact tok.inn _ hmem x hx) (fun _ => rfl) (fun _ _ => vv_var rfl) (fun _ => rfl)
      · have hF6 := hF.to e6
        have e16 := e15.trans e6
        have okK := ofKinds_ok ok
        have hKl : (ofKinds R.trim R.ks (many R.ks)).mv.length = many R.ks := ofKinds_len
        refine q_ret' (ed_call0 (pre := pTrim) (ds := [tR (ofKinds R.trim R.ks (many R.ks))]) (ea_one ((ed_made (sh := (((List.range (many R.ks)).map fun k => R.ks.idxOf k).map R.trim.show).map nI) (ed_var rfl (h1.to e16)) (vv_var rfl) hLL (el_comp (src_list (vv_var rfl) hF6) (by simp) (by simp; omega) (fun _ => rfl) fun i d r x H7 hd hr e7 hx => ?_) (by simp; omega)).is ?_))
          ⟨ofKinds R.trim R.ks (many R.ks), rfl, okK, ?_, rfl⟩) fun x H7 e7 hx => kk x H7 (e1.trans (e16.trans e7)) hx
        · rw [List.getElem?_map] at hd hr
          cases ei : ((List.range (many R.ks)).map fun k => R.ks.idxOf k)[i]? with
          | none => rw [ei] at hd; cases hd
          | some z =>
            rw [ei] at hd
            rw [List.getElem?_map, ei] at hr
            obtain rfl : nI z = d := Option.some.inj hd
            obtain rfl := Option.some.inj hr
            have hz := hfin z (List.mem_of_getElem? ei)
            obtain ⟨t, ht⟩ := get_of_lt (l := R.trim.sh) (i := z) (by rw [tok.shl]; exact hz)
            rw [show R.trim.show z = t from getD_some ht]
            exact ed_ixI (ed_var rfl ((h3.to e16).to e7)) (ed_var rfl hx) ht
        · simp [tR, ofKinds, tII, tI, List.map_map, Function.comp_def]
        · refine ⟨hb, by rw [hKl]; omega, fun x hx => ?_⟩
          obtain ⟨z, hz, rfl⟩ := List.mem_map.mp (show x ∈ ((List.range (many R.ks)).map fun k => R.ks.idxOf k).map R.trim.show from hx)
          exact tsm.s _ (getD_mem (by rw [tok.shl]; exact hfin z hz))
end
end K63
/-! K63Work5: number_read, least_reader, want_two. -/
namespace K63
open PySem PySem.Spec PyProof.Rows L2 RZ
def pNumRd (ds : List PyData) (r : PyData) : Prop := ∃ (R : Rd) (n : Nat), ds = [tR R, nI n] ∧ R.Zero ∧ Small R ∧ n < 2 ^ 1000 ∧ r = nI (numRead R n)
def pLeastR (ds : List PyData) (r : PyData) : Prop := ∃ R : Rd, ds = [tR R] ∧ R.Zero ∧ Small R ∧ r = tR (leastL R)
structure Two (R S : Rd) : Prop where
  zr : R.Zero
  zs : S.Zero
  sr : Small R
  ss : Small S
  b : R.b = S.b
  n : R.mv.length * S.mv.length ≤ 60
  lr : ∀ x ∈ R.sh, x < 30
  ls : ∀ x ∈ S.sh, x < 30
def pTwo (ds : List PyData) (r : PyData) : Prop := ∃ R S : Rd, ds = [tR R, tR S] ∧ Two R S ∧ r = .none
section
variable {P : Program} {w : World} {K : PySem.W.Frag} {mg : Str → Option Value} {base : Heap} {H H' : Hp}
abbrev s_number_read : Stmt := topS 25
theorem sc_number_read : FnScope ["reader", "number"] ["reader", "number"] (defScope s_number_read) := ⟨rfl, rfl, rfl, by decide +kernel, rfl, by decide +kernel, by decide +kernel⟩
-- 0 reader, 1 number
theorem ok_number_read (B : Bn mg) (c_want_reader : Cal P w K mg base "want_reader" 6 ["thing", "name"] [.str "reader"] (spD K pWantRd)) (c_want : Cal P w K mg base "want" 1 ["holds", "word", "at"] [.int (-1)] (spD K pWant))
    (c_is_number : Cal P w K mg base "is_number" 2 ["thing"] [] (spD K pNum)) (c_shown_by : Cal P w K mg base "shown_by" 2 ["reader", "number"] [] (spD K pShown)) {f : Addr} {fd : FuncData} (F : Fun K "number_read" "number_read" s_number_read f fd) : FnOk P w K mg base CX0 7 f fd ["reader", "number"] (spD K pNumRd) := by
  refine F.ok sc_number_read (fun vs H Q E h => spD_len (n := 2) (fun ds r p => by obtain ⟨R, n, rfl, _⟩ := p; rfl) h) (fun cdv A outer s H vs Q E hr h => ?_)
  obtain ⟨ds, r, hd, ⟨R, n, rfl, ok, sm, hn, rfl⟩, kk⟩ := h
  obtain ⟨v, u, rfl, hv, hu⟩ := hd.inv2
  refine ⟨_, (pss_cons (ps_expr (pe_callC c_want_reader (hr.mono (by decide)) (by rfl) (pa_cons (pv 0) pa_nil)))
      (pss_cons (ps_expr (pe_callC c_want (hr.mono (by decide)) (by rfl) (pa_cons (pe_callC c_is_number (hr.mono (by decide)) (by rfl) (pa_cons (pv 1) pa_nil)) (pa_cons pe_str pa_nil))))
      (pss_one (ps_ret (pe_callC c_shown_by (hr.mono (by decide)) (by rfl) (pa_cons (pv 0) (pa_cons (pv 1) pa_nil))))))), ?_⟩
  refine q_drop (K := K) (ed_call (dds := [.str "reader"]) (ea_one (ed_var rfl hv)) (fun _ => .one (.str _)) ⟨R, _, rfl, ok, sm, rfl⟩) fun H1 e1 => ?_
  refine q_drop (K := K) (ed_call (dds := [.int (-1)]) (ea_cons (ed_call0 (ea_one (ed_var rfl (hu.to e1))) ⟨n, rfl, rfl⟩) (ea_one ed_str)) (fun _ => .one (.int _)) ⟨_, _, rfl, rfl⟩) fun H2 e2 => ?_
  have e12 := e1.trans e2
  exact q_ret' (ed_call0 (ea_cons (ed_var rfl (hv.to e12)) (ea_one (ed_var rfl (hu.to e12)))) ⟨R, n, rfl, ok.toOk, sm, hn, rfl⟩) fun x H3 e3 hx => kk x H3 (e12.trans e3) hx
abbrev s_least_reader : Stmt := topS 26
theorem sc_least_reader : FnScope ["reader"] ["reader"] (defScope s_least_reader) := ⟨rfl, rfl, rfl, by decide +kernel, rfl, by decide +kernel, by decide +kernel⟩
-- 0 reader
theorem ok_least_reader (B : Bn mg) (c_want_reader : Cal P w K mg base "want_reader" 6 ["thing", "name"] [.str "reader"] (spD K pWantRd)) (c_least_of : Cal P w K mg base "least_of" 3 ["reader"] [] (spD K pLeast))
    {f : Addr} {fd : FuncData} (F : Fun K "least_reader" "least_reader" s_least_reader f fd) : FnOk P w K mg base CX0 7 f fd ["reader"] (spD K pLeastR) := by
  refine F.ok sc_least_reader (fun vs H Q E h => spD_len (n := 1) (fun ds r p => by obtain ⟨R, rfl, _⟩ := p; rfl) h) (fun cdv A outer s H vs Q E hr h => ?_)
  obtain ⟨ds, r, hd, ⟨R, rfl, ok, sm, rfl⟩, kk⟩ := h
  obtain ⟨v, rfl, hv⟩ := hd.inv1
  refine ⟨_, (pss_cons (ps_expr (pe_callC c_want_reader (hr.mono (by decide)) (by rfl) (pa_cons (pv 0) pa_nil)))
      (pss_one (ps_ret (pe_callC c_least_of (hr.mono (by decide)) (by rfl) (pa_cons (pv 0) pa_nil))))), ?_⟩
  refine q_drop (K := K) (ed_call (dds := [.str "reader"]) (ea_one (ed_var rfl hv)) (fun _ => .one (.str _)) ⟨R, _, rfl, ok, sm, rfl⟩) fun H1 e1 => ?_
  exact q_ret' (ed_call0 (ea_one (ed_var rfl (hv.to e1))) ⟨R, rfl, ok.toOk, sm, rfl⟩) fun x H3 e3 hx => kk x H3 (e1.trans e3) (by rw [← least_eq ok.toOk]; exact hx)
abbrev s_want_two : Stmt := topS 27
theorem sc_want_two : FnScope ["reader", "other"] ["reader", "other"] (defScope s_want_two) := ⟨rfl, rfl, rfl, by decide +kernel, rfl, by decide +kernel, by decide +kernel⟩
-- 0 reader, 1 other
theorem ok_want_two (B : Bn mg) (c_want_reader : Cal P w K mg base "want_reader" 6 ["thing", "name"] [.str "reader"] (spD K pWantRd)) (c_want_readerF : Cal P w K mg base "want_reader" 6 ["thing", "name"] [] (spD K pWantRd))
    (c_want : Cal P w K mg base "want" 1 ["holds", "word", "at"] [.int (-1)] (spD K pWant)) {f : Addr} {fd : FuncData} (F : Fun K "want_two" "want_two" s_want_two f fd) : FnOk P w K mg base CX0 7 f fd ["reader", "other"] (spD K pTwo) := by
  refine F.ok sc_want_two (fun vs H Q E h => spD_len (n := 2) (fun ds r p => by obtain ⟨R, S, rfl, _⟩ := p; rfl) h) (fun cdv A outer s H vs Q E hr h => ?_)
  obtain ⟨ds, r, hd, ⟨R, S, rfl, t, rfl⟩, kk⟩ := h
  obtain ⟨v, u, rfl, hv, hu⟩ := hd.inv2
  refine ⟨_, (pss_cons (ps_expr (pe_callC c_want_reader (hr.mono (by decide)) (by rfl) (pa_cons (pv 0) pa_nil)))
      (pss_cons (ps_expr (pe_callC c_want_readerF (hr.mono (by decide)) (by rfl) (pa_cons (pv 1) (pa_cons pe_str pa_nil))))
      (pss_one (ps_expr (pe_callC c_want (hr.mono (by decide)) (by rfl) (pa_cons (pe_cmpR op_eq (pe_ix (k_ixT K) (pv 0) pe_int (fun _ _ => rfl)) (pe_ix (k_ixT K) (pv 1) pe_int (fun _ _ => rfl)) (nomark _)) (pa_cons pe_str pa_nil))))))), ?_⟩
  refine q_drop (K := K) (ed_call (dds := [.str "reader"]) (ea_one (ed_var rfl hv)) (fun _ => .one (.str _)) ⟨R, _, rfl, t.zr, t.sr, rfl⟩) fun H1 e1 => ?_
  refine q_drop (K := K) (ed_call0 (ea_cons (ed_var rfl (hu.to e1)) (ea_one ed_str)) ⟨S, _, rfl, t.zs, t.ss, rfl⟩) fun H2 e2 => ?_
  have e12 := e1.trans e2
  exact ed_call (K := K) (dds := [.int (-1)]) (ea_cons ((ed_eqN (ed_ixT (k := 0) (ed_var rfl (hv.to e12)) ed_int rfl) (ed_ixT (k := 0) (ed_var rfl (hu.to e12)) ed_int rfl)).is (bool_true t.b)) (ea_one ed_str)) (fun _ => .one (.int _)) ⟨_, _, rfl, rfl⟩ H2 (Same.refl H2) _
    fun x H3 e3 hx => kk .non H3 (e12.trans e3) .non
end
end K63
/-! K63Work6: parting_number. -/
namespace K63
open PySem PySem.Spec PyProof.Rows L2 RZ
def optD : Option Nat → PyData
  | none => .none
  | some n => nI n
def pPart (ds : List PyData) (r : PyData) : Prop := ∃ R S : Rd, ds = [tR R, tR S] ∧ Two R S ∧ r = optD (partRd R S)
/-- a waiting thing: the number, the pair -/
def itm (x : PIt) : PyData := .tuple [nI x.2, pD x.1]
section
variable {P : Program} {w : World} {K : PySem.W.Frag} {mg : Str → Option Value} {base : Heap} {H H' : Hp} {R S : Rd} {σ : L2.St} {tv tp td : TE} {p : Nat × Nat}
/-- reader[2][pair[j]] -/
theorem ed_shown {j : Nat} {a : Nat} (ok : R.Ok) (hv : EvD K tv σ H (tR R)) (hp : EvD K tp σ H (pD p)) (hj : [nI p.1, nI p.2][j]? = some (nI a)) (ha : a < R.mv.length) :
    EvD K (tOp (rIxT K) (tOp (rIxT K) tv (tC (.int 2))) (tOp (rIxT K) tp (tC (.int (j : Int))))) σ H (nI (R.show a)) := by
  obtain ⟨t, ht⟩ := get_of_lt (l := R.sh) (i := a) (by rw [ok.shl]; exact ha)
  rw [show R.show a = t from getD_some ht]
  exact ed_ixI (ed_ixT (k := 2) hv ed_int rfl) (ed_ixT (k := j) hp ed_int hj) ht
/-- reader[1][pair[j]][digit] -/
theorem ed_goes {j : Nat} {a d : Nat} (ok : R.Ok) (hv : EvD K tv σ H (tR R)) (hp : EvD K tp σ H (pD p)) (hd : EvD K td σ H (nI d)) (hj : [nI p.1, nI p.2][j]? = some (nI a)) (ha : a < R.mv.length) (hdb : d < R.b) :
    EvD K (tOp (rIxT K) (tOp (rIxT K) (tOp (rIxT K) tv (tC (.int 1))) (tOp (rIxT K) tp (tC (.int (j : Int))))) td) σ H (nI ((R.row a).getD d 0)) := by
  obtain ⟨r, hr⟩ := get_of_lt ha
  have hrow : R.row a = r := getD_some hr
  obtain ⟨t, ht⟩ := get_of_lt (l := r) (i := d) (by rw [ok.wide r (List.mem_of_getElem? hr)]; exact hdb)
  rw [hrow, getD_some ht]
  exact ed_ixI (ed_ixII (ed_ixT (k := 1) hv ed_int rfl) (ed_ixT (k := j) hp ed_int hj) hr) hd ht
abbrev s_parting_number : Stmt := topS 28
theorem sc_parting_number : FnScope ["reader", "other", "base", "waiting", "seen", "spot", "number", "pair", "digit", "late"] ["reader", "other"] (defScope s_parting_number) := ⟨rfl, rfl, rfl, by decide +kernel, rfl, by decide +kernel, by decide +kernel⟩
-- 0 reader, 1 other, 2 base, 3 waiting, 4 seen, 5 spot, 6 number, 7 pair, 8 digit, 9 late
theorem ok_parting_number (B : Bn mg) (c_want_two : Cal P w K mg base "want_two" 7 ["reader", "other"] [] (spD K pTwo)) {f : Addr} {fd : FuncData} (F : Fun K "parting_number" "parting_number" s_parting_number f fd) :
    FnOk P w K mg base CX0 8 f fd ["reader", "other"] (spD K pPart) := by
  refine F.ok sc_parting_number (fun vs H Q E h => spD_len (n := 2) (fun ds r p => by obtain ⟨R, S, rfl, _⟩ := p; rfl) h) (fun cdv A outer s H vs Q E hr h => ?_)
  obtain ⟨ds, r, hd, ⟨R, S, rfl, t, rfl⟩, kk⟩ := h
  obtain ⟨v, u, rfl, hv, hu⟩ := hd.inv2
  refine ⟨_, (pss_cons (ps_expr (pe_callC c_want_two (hr.mono (by decide)) (by rfl) (pa_cons (pv 0) (pa_cons (pv 1) pa_nil))))
      (pss_cons (ps_set (i := 2) sc_parting_number.nd rfl (Or.inl rfl) (pe_ix (k_ixT K) (pv 0) pe_int (fun _ _ => rfl)))
      (pss_cons (ps_par3 (i := 3) (j := 4) (l := 5) rfl sc_parting_number.nd rfl rfl rfl (by decide) (by decide) (by decide) rfl rfl rfl (pa_cons (pe_lst (pa_cons (pe_tup (pa_cons pe_int (pa_cons (pe_tup (pa_cons pe_int (pa_cons pe_int pa_nil))) pa_nil))) pa_nil)) (pa_cons (k_dispN P w K hr (pe_tup (pa_cons pe_int (pa_cons pe_int pa_nil))) pe_bl) (pa_cons pe_int pa_nil))) (by rfl))
      (pss_cons (ps_while PassesOwn.never (pt_cmpR op_lt (pv 5) (pe_callB (k_len K) (by rfl) B.len PySem.boot_len (pa_cons (pv 3) pa_nil)) (nomark _))
      (pss_cons (ps_asg (pe_ix (k_ixL K) (pv 3) (pv 5) (fun _ _ => rfl)) (k_pgt K (n := 2) rfl (pgs_cons (pg_name (i := 6) sc_parting_number.nd rfl (Or.inl rfl)) (pgs_cons (pg_name (i := 7) sc_parting_number.nd rfl (Or.inl rfl)) pgs_nil))))
      (pss_cons (ps_if (pt_cmpR op_ne (pe_ix (k_ixT K) (pe_ix (k_ixT K) (pv 0) pe_int (fun _ _ => rfl)) (pe_ix (k_ixT K) (pv 7) pe_int (fun _ _ => rfl)) (fun _ _ => rfl)) (pe_ix (k_ixT K) (pe_ix (k_ixT K) (pv 1) pe_int (fun _ _ => rfl)) (pe_ix (k_ixT K) (pv 7) pe_int (fun _ _ => rfl)) (fun _ _ => rfl)) (nomark _)) (pss_one (ps_ret (pv 6))) pss_nil)
      (pss_cons (ps_for PassesOwn.never rfl (pi_range1 (by rfl) B.range (pa_cons (pv 2) pa_nil)) (pg_name (i := 8) sc_parting_number.nd rfl (Or.inl rfl))
      (pss_cons (ps_set (i := 9) sc_parting_number.nd rfl (Or.inl rfl) (pe_tup (pa_cons (pe_ix (k_ixT K) (pe_ix (k_ixT K) (pe_ix (k_ixT K) (pv 0) pe_int (fun _ _ => rfl)) (pe_ix (k_ixT K) (pv 7) pe_int (fun _ _ => rfl)) (fun _ _ => rfl)) (pv 8) (fun _ _ => rfl)) (pa_cons (pe_ix (k_ixT K) (pe_ix (k_ixT K) (pe_ix (k_ixT K) (pv 1) pe_int (fun _ _ => rfl)) (pe_ix (k_ixT K) (pv 7) pe_int (fun _ _ => rfl)) (fun _ _ => rfl)) (pv 8) (fun _ _ => rfl)) pa_nil))))
      (pss_one (ps_if (pt_cmp (k_dnotinN P w K hr (pv 9) (pv 4))) (pss_cons (ps_asg pe_bl (pg_sub (pv 4) (pv 9) (k_setN P w K hr)))
      (pss_one (ps_expr (k_bm K PySem.F.plainAttrs_list PySem.F.slot_list_append PySem.F.type_list_append mt_append (pv 3) (pa_cons (pe_tup (pa_cons (pe_op op_add (pe_op op_mul (pv 6) (pv 2)) (pv 8)) (pa_cons (pv 9) pa_nil))) pa_nil))))) pss_nil))))
      (pss_one (ps_aug (i := 5) sc_parting_number.nd rfl (Or.inl rfl) pe_int ip_add))))))
      (pss_one (ps_ret pe_non)))))), ?_⟩
  have ok := t.zr.toOk
  have ok' := t.zs.toOk
  have hN := t.n
  have hb4 := t.sr.b
  have hb2 := ok.base
  refine q_drop (K := K) (ed_call0 (ea_cons (ed_var rfl hv) (ea_one (ed_var rfl hu))) ⟨R, S, rfl, t, rfl⟩) fun H1 e1 => ?_
  refine q_N (K := K) (ed_ixT (k := 0) (ed_var rfl (hv.to e1)) ed_int rfl) fun H2 e2 => ?_
  have e02 := e1.trans e2
  refine q_par3 (K := K) (ds := [itm ((0, 0), 0)]) (el_lst (ea_one (ed_tup (ea_cons ed_int (ea_one (ed_tup (ea_cons ed_int (ea_one ed_int)) (by simp)))) (by simp))) (by simp))
    (ed_dispP (x := (0, 0)) (ed_tup (ea_cons ed_int (ea_one ed_int)) (by simp))) fun p vs d H3 hp hd' pd e3 hl3 hdl3 hnd => ?_
  obtain ⟨b0, nd3⟩ := hnd
  have e03 := e02.trans e3
  have pH : H p = none := e02.free hp
  have dH : H d = none := e02.free hd'
  refine q_while (fun m σ' H' => ∃ (k : Nat) (y6 y7 y8 y9 : Option V), σ' = [some v, some u, some (vN R.b), some (.ref p), some (.ref d), some (vN k), y6, y7, y8, y9] ∧ Same H H' ∧ Ls K H' p ((pord R.mac S.mac R.b k).map itm) ∧
      (∃ kvs, ND P w K H' d kvs ∧ SeenP kvs (pord R.mac S.mac R.b k)) ∧ k ≤ (pord R.mac S.mac R.b k).length ∧ Alike R S k ∧ m = R.mv.length * S.mv.length - k) (R.mv.length * S.mv.length)
    ⟨0, none, none, none, none, rfl, e03, ⟨vs, hl3, hdl3⟩, ⟨_, nd3, seen_one b0 _⟩, Nat.zero_le _, fun i y hi => by omega, by omega⟩ fun m σ' H' hw => ?_
  obtain ⟨k, y6, y7, y8, y9, rfl, eH, hL, ⟨kvs, nd, hsp⟩, hk, hal, rfl⟩ := hw
  have hshort := pord_short ok ok' t.b k
  have hkN : k ≤ R.mv.length * S.mv.length := Nat.le_trans hk hshort
  refine ⟨decide (k < (pord R.mac S.mac R.b k).length), et_test (K := K) (ed_ltN (ed_var rfl (.int _)) ((ed_lenL (vv_var rfl) hL).is (by rw [List.length_map]))), fun hm H4 e4 => ?_, fun hm H4 e4 => ?_⟩
  · have hm := of_decide_eq_true hm
    obtain ⟨x, hx⟩ := get_of_lt hm
    have hxm := List.mem_of_getElem? hx
    have hxin := pord_in ok ok' t.b k x hxm
    refine q_un2 (K := K) (d1 := nI x.2) (d2 := pD x.1) (ed_ixL (k := k) (vv_var rfl) (hL.to e4) (ed_var rfl (.int _)) (by rw [List.getElem?_map, hx]; rfl)) fun v6 v7 H5 e5 h6 h7 => ?_
    have e05 := (eH.trans e4).trans e5
    refine q_if (b := !decide (R.show x.1.1 = S.show x.1.2)) (et_test (K := K) (ed_neN (ed_shown (p := x.1) (j := 0) ok (ed_var rfl (hv.to e05)) (ed_var rfl h7) rfl hxin.1) (ed_shown (p := x.1) (j := 1) ok' (ed_var rfl (hu.to e05)) (ed_var rfl h7) rfl hxin.2))) (fun hz H6 e6 => ?_) fun hz H6 e6 => ?_
    · have hne : R.show x.1.1 ≠ S.show x.1.2 := by simpa using hz
      refine q_ret' (ed_var rfl (h6.to e6)) fun z H7 e7 hz7 => kk z H7 ((e05.trans e6).trans e7) ?_
      rw [part_found hkN hx hne hal]; exact hz7
    · have heq : R.show x.1.1 = S.show x.1.2 := by simpa using hz
      have e06 := e05.trans e6
      have e46 := (e4.trans e5).trans e6
      cases h6.inv_int
      refine q_rng (K := K) (m := R.b) (ea_one (ed_var rfl (.int _))) (by omega) (fun i σ' H'' => ∃ y8 y9, σ' = [some v, some u, some (vN R.b), some (.ref p), some (.ref d), some (vN k), some (vN x.2), some v7, y8, y9] ∧ Same H H'' ∧ Di K H'' v7 (pD x.1) ∧
          Ls K H'' p ((expand Prod.fst (pord R.mac S.mac R.b k) ((prow R.mac S.mac R.b x).take i)).map itm) ∧ ∃ kvs, ND P w K H'' d kvs ∧ SeenP kvs (expand Prod.fst (pord R.mac S.mac R.b k) ((prow R.mac S.mac R.b x).take i)))
        (fun H7 e7 => ⟨y8, y9, rfl, e06.trans e7, (h7.to e6).to e7, (hL.to e46).to e7, kvs, (nd.to e46).to e7, hsp⟩) (fun i σ' H7 hi hP => ?_) fun σ' H7 hP => ?_
      · obtain ⟨y8, y9, rfl, e07, d7, hL7, kvs7, nd7, hsp7⟩ := hP
        have hsh := exp_short ok ok' t.b hxm i
        refine q_D (K := K) (d := pD ((R.row x.1.1).getD i 0, (S.row x.1.2).getD i 0)) (ed_tup (ea_cons (ed_goes (p := x.1) (j := 0) ok (ed_var rfl (hv.to e07)) (ed_var rfl d7) (ed_var rfl (.int _)) rfl hxin.1 hi)
          (ea_one (ed_goes (p := x.1) (j := 1) ok' (ed_var rfl (hu.to e07)) (ed_var rfl d7) (ed_var rfl (.int _)) rfl hxin.2 (by rw [← t.b]; exact hi)))) (Nat.le_of_ble_eq_true rfl)) fun v9 H8 e8 h9 => ?_
        have e08 := e07.trans e8
        refine s_if (et_B (K := K) (ed_seen (x := ((R.row x.1.1).getD i 0, (S.row x.1.2).getD i 0)) (ed_var rfl h9) (vv_var rfl) (nd7.to e8))) (fun hz H9 e9 => ?_) fun hz H9 e9 => ?_
        · have hnew : ((R.row x.1.1).getD i 0, (S.row x.1.2).getD i 0) ∉ (expand Prod.fst (pord R.mac S.mac R.b k) ((prow R.mac S.mac R.b x).take i)).map Prod.fst := fun z => by
            have := hsp7.2 ((R.row x.1.1).getD i 0, (S.row x.1.2).getD i 0)
            rw [decide_eq_true z] at this
            rw [this] at hz; simp at hz
          have nd9 := (nd7.to e8).to e9
          refine q_setN (K := K) ed_bl (vv_var rfl) (ed_var rfl (h9.to e9)) nd9 (by rw [hsp7.1]; omega) fun H10 o10 b10 u10 e10 nt10 nd10 => ?_
          have t10 : Tx H9 (upd H10 d o10) := (Same.tx e10).trans (.upd nt10)
          have hL10 : Ls K (upd H10 d o10) p _ := ((((hL7.to e8).to e9).to e10).other nt10 (Ne.symm pd))
          have d7' := ((d7.to e8).to e9).tx t10
          refine s_app (d := itm (((R.row x.1.1).getD i 0, (S.row x.1.2).getD i 0), x.2 * R.b + i)) hL10 (vv_var rfl) (ed_tup (ea_cons (ed_add (ed_mul (ed_var rfl (.int _)) (ed_var rfl (.int _)) (by omega)) (ed_var rfl (.int _))) (ea_one (ed_var rfl ((h9.to e9).tx t10)))) (Nat.le_of_ble_eq_true rfl))
            (by rw [List.length_map]; omega) fun H11 o11 e11 nt11 hL11 => ?_
          refine ⟨_, _, rfl, Same.mut ((Same.mut ((e08.trans e9).trans e10) dH).trans e11) pH, (d7'.to e11).tx (.upd nt11), ?_, ?_⟩
          · rw [exp_new hi hnew]
            rw [List.map_append]
            exact hL11
          · rw [exp_new hi hnew]
            exact ⟨_, (nd10.to e11).put nt11 (Ne.symm pd), seen_put (x := (((R.row x.1.1).getD i 0, (S.row x.1.2).getD i 0), x.2 * R.b + i)) hsp7 hnew⟩
        · have hold : ((R.row x.1.1).getD i 0, (S.row x.1.2).getD i 0) ∈ (expand Prod.fst (pord R.mac S.mac R.b k) ((prow R.mac S.mac R.b x).take i)).map Prod.fst := Classical.byContradiction fun z => by
            have := hsp7.2 ((R.row x.1.1).getD i 0, (S.row x.1.2).getD i 0)
            rw [decide_eq_false z] at this
            rw [this] at hz; simp at hz
          refine ⟨_, _, rfl, e08.trans e9, (d7.to e8).to e9, ?_, ?_⟩
          · rw [exp_old hi hold]
            exact (hL7.to e8).to e9
          · rw [exp_old hi hold]
            exact ⟨_, (nd7.to e8).to e9, hsp7⟩
      · obtain ⟨y8, y9, rfl, e07, d7, hL7, kvs7, nd7, hsp7⟩ := hP
        have hfull : (prow R.mac S.mac R.b x).take R.b = prow R.mac S.mac R.b x := by
          rw [List.take_of_length_le]; simp [prow]
        rw [hfull, ← pord_next hx] at hL7 hsp7
        refine ⟨_, rfl, _, _, rfl, rfl, R.mv.length * S.mv.length - (k + 1), by omega, k + 1, _, _, _, _, rfl, e07, hL7, ⟨kvs7, nd7, hsp7⟩, ?_, alike_next hx hal heq, rfl⟩
        exact Nat.le_trans hm (pord_pre (Nat.le_succ k)).length_le
  · have hm := of_decide_eq_false hm
    refine q_ret' (K := K) ed_non fun z H7 e7 hz7 => kk z H7 ((eH.trans e4).trans e7) ?_
    rw [part_end hkN (by omega) hal]; exact hz7
end
end K63
/-! K63Work12: the law's parting number. -/
namespace K63
open PySem PySem.Spec PyProof.Rows L2 RZ
/-- the law's waiting thing: the pair, the number -/
def itmL (x : PIt) : PyData := .tuple [pD x.1, nI x.2]
section
variable {P : Program} {w : World} {K : PySem.W.Frag} {mg : Str → Option Value} {base : Heap} {H H' : Hp} {R S : Rd} {σ : L2.St} {ta tb : TE} {D : Ends} {tz : TS} {i j : Nat} {ds : List PyData}
theorem q_par2 {Φ : Addr → Hp → Prop} (hΦ : ∀ q H1 H2, Same H1 H2 → Φ q H1 → Φ q H2) (hb : EvNew ta σ H Φ) (h : EvL K tb σ H ds) (k : ∀ q p vs H1, H q = none → H p = none → Same H H1 → H1 p = some (.lst vs) → DiAll K H1 vs ds → Φ q H1 → tz D ((σ.set i (some (.ref q))).set j (some (.ref p))) H1) :
    tSeq (tPar i j (tCons ta (tCons tb tNil))) tz D σ H := hb H (Same.refl H) _ fun q H1 hq e1 h1 => h H1 e1 _ fun p vs H2 hp e2 h2 hd =>
  ⟨_, _, rfl, k q p vs H2 hq (e1.free hp) (e1.trans e2) h2 hd (hΦ q H1 H2 e2 h1)⟩
theorem alike_stay {k : Nat} (h : (pord R.mac S.mac R.b k).length ≤ k) (hb : Alike R S k) : pord R.mac S.mac R.b (k + 1) = pord R.mac S.mac R.b k ∧ Alike R S (k + 1) := by
  have e : pord R.mac S.mac R.b (k + 1) = pord R.mac S.mac R.b k := by
    unfold pord at h ⊢
    rw [ordAt_succ, List.getElem?_eq_none h]
  refine ⟨e, fun i y hi hy => ?_⟩
  rw [e] at hy
  have hlt := (List.getElem?_eq_some_iff.mp hy).1
  exact hb i y (by omega) hy
abbrev s_law_parting : Stmt := topS 37
theorem sc_law_parting : FnScope ["_law_one", "_law_other", "_law_known", "_law_todo", "_law_lap", "_law_pair", "_law_number", "_law_digit", "_law_late"] ["_law_one", "_law_other"] (defScope s_law_parting) := ⟨rfl, rfl, rfl, by decide +kernel, rfl, by decide +kernel, by decide +kernel⟩
-- 0 _law_one, 1 _law_other, 2 _law_known, 3 _law_todo, 4 _law_lap, 5 _law_pair, 6 _law_number, 7 _law_digit, 8 _law_late
theorem ok_law_parting (B : Bn mg) {f : Addr} {fd : FuncData} (F : Fun K "_law_parting" "_law_parting" s_law_parting f fd) : FnOk P w K mg base CX0 1 f fd ["_law_one", "_law_other"] (spD K pPart) := by
  refine F.ok sc_law_parting (fun vs H Q E h => spD_len (n := 2) (fun ds r p => by obtain ⟨R, S, rfl, _⟩ := p; rfl) h) (fun cdv A outer s H vs Q E hr h => ?_)
  obtain ⟨ds, r, hd, ⟨R, S, rfl, t, rfl⟩, kk⟩ := h
  obtain ⟨v, u, rfl, hv, hu⟩ := hd.inv2
  refine ⟨_, (pss_cons (ps_par (i := 2) (j := 3) rfl sc_law_parting.nd rfl rfl (by decide) rfl rfl (pa_cons (k_dispN P w K hr (pe_tup (pa_cons pe_int (pa_cons pe_int pa_nil))) pe_bl) (pa_cons (pe_lst (pa_cons (pe_tup (pa_cons (pe_tup (pa_cons pe_int (pa_cons pe_int pa_nil))) (pa_cons pe_int pa_nil))) pa_nil)) pa_nil)) (by rfl))
      (pss_cons (ps_for PassesOwn.never rfl (pi_range1 (by rfl) B.range (pa_cons (pe_op op_mul (pe_callB (k_len K) (by rfl) B.len PySem.boot_len (pa_cons (pe_ix (k_ixT K) (pv 0) pe_int (fun _ _ => rfl)) pa_nil)) (pe_callB (k_len K) (by rfl) B.len PySem.boot_len (pa_cons (pe_ix (k_ixT K) (pv 1) pe_int (fun _ _ => rfl)) pa_nil))) pa_nil)) (pg_name (i := 4) sc_law_parting.nd rfl (Or.inl rfl))
      (pss_one (ps_if (pt_cmpR op_lt (pv 4) (pe_callB (k_len K) (by rfl) B.len PySem.boot_len (pa_cons (pv 3) pa_nil)) (nomark _)) (pss_cons (ps_asg (pe_ix (k_ixL K) (pv 3) (pv 4) (fun _ _ => rfl)) (k_pgt K (n := 2) rfl (pgs_cons (pg_name (i := 5) sc_law_parting.nd rfl (Or.inl rfl)) (pgs_cons (pg_name (i := 6) sc_law_parting.nd rfl (Or.inl rfl)) pgs_nil))))
      (pss_cons (ps_if (pt_cmpR op_ne (pe_ix (k_ixT K) (pe_ix (k_ixT K) (pv 0) pe_int (fun _ _ => rfl)) (pe_ix (k_ixT K) (pv 5) pe_int (fun _ _ => rfl)) (fun _ _ => rfl)) (pe_ix (k_ixT K) (pe_ix (k_ixT K) (pv 1) pe_int (fun _ _ => rfl)) (pe_ix (k_ixT K) (pv 5) pe_int (fun _ _ => rfl)) (fun _ _ => rfl)) (nomark _)) (pss_one (ps_ret (pv 6))) pss_nil)
      (pss_one (ps_for PassesOwn.never rfl (pi_range1 (by rfl) B.range (pa_cons (pe_ix (k_ixT K) (pv 0) pe_int (fun _ _ => rfl)) pa_nil)) (pg_name (i := 7) sc_law_parting.nd rfl (Or.inl rfl))
      (pss_cons (ps_set (i := 8) sc_law_parting.nd rfl (Or.inl rfl) (pe_tup (pa_cons (pe_ix (k_ixT K) (pe_ix (k_ixT K) (pe_ix (k_ixT K) (pv 0) pe_int (fun _ _ => rfl)) (pe_ix (k_ixT K) (pv 5) pe_int (fun _ _ => rfl)) (fun _ _ => rfl)) (pv 7) (fun _ _ => rfl)) (pa_cons (pe_ix (k_ixT K) (pe_ix (k_ixT K) (pe_ix (k_ixT K) (pv 1) pe_int (fun _ _ => rfl)) (pe_ix (k_ixT K) (pv 5) pe_int (fun _ _ => rfl)) (fun _ _ => rfl)) (pv 7) (fun _ _ => rfl)) pa_nil))))
      (pss_one (ps_if (pt_cmp (k_dnotinN P w K hr (pv 8) (pv 2))) (pss_cons (ps_asg pe_bl (pg_sub (pv 2) (pv 8) (k_setN P w K hr)))
      (pss_one (ps_set (i := 3) sc_law_parting.nd rfl (Or.inl rfl) (pe_op op_cat (pv 3) (pe_lst (pa_cons (pe_tup (pa_cons (pv 8) (pa_cons (pe_op op_add (pe_op op_mul (pv 6) (pe_ix (k_ixT K) (pv 0) pe_int (fun _ _ => rfl))) (pv 7)) pa_nil))) pa_nil)))))) pss_nil))))))) pss_nil)))
      (pss_one (ps_ret pe_non)))), ?_⟩
  have ok := t.zr.toOk
  have ok' := t.zs.toOk
  have hN := t.n
  have hb4 := t.sr.b
  have hb2 := ok.base
  refine q_par2 (K := K) (ds := [itmL ((0, 0), 0)]) (fun q H1 H2 e h => by obtain ⟨b, nd⟩ := h; exact ⟨b, nd.to e⟩) (ed_dispP (K := K) (x := (0, 0)) (ed_tup (ea_cons ed_int (ea_one ed_int)) (by simp))) (el_lst (ea_one (ed_tup (ea_cons (ed_tup (ea_cons ed_int (ea_one ed_int)) (by simp)) (ea_one ed_int)) (by simp))) (by simp)) fun d p vs H3 dH hp e3 hl3 hdl3 hnd => ?_
  obtain ⟨b0, nd3⟩ := hnd
  refine q_rng (K := K) (m := R.mv.length * S.mv.length) (ea_one (ed_mul (ed_lenII (ed_ixT (k := 1) (ed_var rfl (hv.to e3)) ed_int rfl)) (ed_lenII (ed_ixT (k := 1) (ed_var rfl (hu.to e3)) ed_int rfl)) (by have := t.ss.n; omega))) (by omega)
    (fun k σ' H' => ∃ (p : Addr) (y4 y5 y6 y7 y8 : Option V), σ' = [some v, some u, some (.ref d), some (.ref p), y4, y5, y6, y7, y8] ∧ Same H H' ∧ Ls K H' p ((pord R.mac S.mac R.b k).map itmL) ∧
      (∃ kvs, ND P w K H' d kvs ∧ SeenP kvs (pord R.mac S.mac R.b k)) ∧ Alike R S k)
    (fun H4 e4 => ⟨p, none, none, none, none, none, rfl, e3.trans e4, Ls.to ⟨vs, hl3, hdl3⟩ e4, ⟨_, nd3.to e4, seen_one b0 _⟩, fun i y hi => by omega⟩) (fun k σ' H4 hk hP => ?_) fun σ' H4 hP => ?_
  · obtain ⟨p, y4, y5, y6, y7, y8, rfl, eH, hL, ⟨kvs, nd, hsp⟩, hal⟩ := hP
    have hkN : k ≤ R.mv.length * S.mv.length := Nat.le_of_lt hk
    refine s_if (et_test (K := K) (ed_ltN (ed_var rfl (.int _)) ((ed_lenL (vv_var rfl) hL).is (by rw [List.length_map])))) (fun hm H5 e5 => ?_) fun hm H5 e5 => ?_
    · have hm := of_decide_eq_true hm
      obtain ⟨x, hx⟩ := get_of_lt hm
      have hxm := List.mem_of_getElem? hx
      have hxin := pord_in ok ok' t.b k x hxm
      refine q_un2 (K := K) (d1 := pD x.1) (d2 := nI x.2) (ed_ixL (k := k) (vv_var rfl) (hL.to e5) (ed_var rfl (.int _)) (by rw [List.getElem?_map, hx]; rfl)) fun v5 v6 H6 e6 h5 h6 => ?_
      have e06 := (eH.trans e5).trans e6
      cases h6.inv_int
      refine q_if (b := !decide (R.show x.1.1 = S.show x.1.2)) (et_test (K := K) (ed_neN (ed_shown (p := x.1) (j := 0) ok (ed_var rfl (hv.to e06)) (ed_var rfl h5) rfl hxin.1) (ed_shown (p := x.1) (j := 1) ok' (ed_var rfl (hu.to e06)) (ed_var rfl h5) rfl hxin.2))) (fun hz H7 e7 => ?_) fun hz H7 e7 => ?_
      · have hne : R.show x.1.1 ≠ S.show x.1.2 := by simpa using hz
        refine q_ret' (K := K) (d := nI x.2) (ed_var rfl (.int _)) fun z H8 e8 hz8 => kk z H8 ((e06.trans e7).trans e8) ?_
        rw [part_found hkN hx hne hal]; exact hz8
      · have heq : R.show x.1.1 = S.show x.1.2 := by simpa using hz
        have e07 := e06.trans e7
        have e47 := (e5.trans e6).trans e7
        refine s_rng (K := K) (m := R.b) (ea_one (ed_ixT (k := 0) (ed_var rfl (hv.to e07)) ed_int rfl)) (by omega) (fun i σ' H'' => ∃ p y7 y8, σ' = [some v, some u, some (.ref d), some (.ref p), some (vN k), some v5, some (vN x.2), y7, y8] ∧ Same H H'' ∧ Di K H'' v5 (pD x.1) ∧
            Ls K H'' p ((expand Prod.fst (pord R.mac S.mac R.b k) ((prow R.mac S.mac R.b x).take i)).map itmL) ∧ ∃ kvs, ND P w K H'' d kvs ∧ SeenP kvs (expand Prod.fst (pord R.mac S.mac R.b k) ((prow R.mac S.mac R.b x).take i)))
          (fun H8 e8 => ⟨p, y7, y8, rfl, e07.trans e8, (h5.to e7).to e8, (hL.to e47).to e8, kvs, (nd.to e47).to e8, hsp⟩) (fun i σ' H8 hi hP => ?_) fun σ' H8 hP => ?_
        · obtain ⟨p, y7, y8, rfl, e08, d5, hL8, kvs8, nd8, hsp8⟩ := hP
          have hsh := exp_short ok ok' t.b hxm i
          refine q_D (K := K) (d := pD ((R.row x.1.1).getD i 0, (S.row x.1.2).getD i 0)) (ed_tup (ea_cons (ed_goes (p := x.1) (j := 0) ok (ed_var rfl (hv.to e08)) (ed_var rfl d5) (ed_var rfl (.int _)) rfl hxin.1 hi)
            (ea_one (ed_goes (p := x.1) (j := 1) ok' (ed_var rfl (hu.to e08)) (ed_var rfl d5) (ed_var rfl (.int _)) rfl hxin.2 (by rw [← t.b]; exact hi)))) (Nat.le_of_ble_eq_true rfl)) fun v8 H9 e9 h8 => ?_
          have e09 := e08.trans e9
          refine s_if (et_B (K := K) (ed_seen (x := ((R.row x.1.1).getD i 0, (S.row x.1.2).getD i 0)) (ed_var rfl h8) (vv_var rfl) (nd8.to e9))) (fun hz H10 e10 => ?_) fun hz H10 e10 => ?_
          · have hnew : ((R.row x.1.1).getD i 0, (S.row x.1.2).getD i 0) ∉ (expand Prod.fst (pord R.mac S.mac R.b k) ((prow R.mac S.mac R.b x).take i)).map Prod.fst := fun z => by
              have := hsp8.2 ((R.row x.1.1).getD i 0, (S.row x.1.2).getD i 0)
              rw [decide_eq_true z] at this
              rw [this] at hz; simp at hz
            have nd10 := (nd8.to e9).to e10
            have hL10 := (hL8.to e9).to e10
            have hpd : d ≠ p := fun z => by
              obtain ⟨us, a, _⟩ := hL10
              rw [← z, nd10.ob] at a; cases a
            refine q_setN (K := K) ed_bl (vv_var rfl) (ed_var rfl (h8.to e10)) nd10 (by rw [hsp8.1]; omega) fun H11 o11 b11 u11 e11 nt11 nd11 => ?_
            have t11 : Tx H10 (upd H11 d o11) := (Same.tx e11).trans (.upd nt11)
            have hL11 : Ls K (upd H11 d o11) p _ := ((hL10.to e11).other nt11 hpd)
            have e011 : Same H (upd H11 d o11) := Same.mut ((e09.trans e10).trans e11) dH
            refine s_L (K := K) (el_cat (es := [itmL (((R.row x.1.1).getD i 0, (S.row x.1.2).getD i 0), x.2 * R.b + i)]) (vv_var rfl) hL11 (el_lst (ea_one (ed_tup (ea_cons (ed_var rfl ((h8.to e10).tx t11)) (ea_one (ed_add (ed_mul (ed_var rfl (.int _)) (ed_ixT (k := 0) (ed_var rfl (hv.to e011)) ed_int rfl) (by omega)) (ed_var rfl (.int _))))) (Nat.le_of_ble_eq_true rfl))) (Nat.le_of_ble_eq_true rfl))
              (by rw [List.length_map, List.length_singleton]; omega)) fun q us H12 hq12 e12 h12 hd12 => ?_
            refine ⟨q, _, _, rfl, e011.trans e12, (((d5.to e9).to e10).tx t11).to e12, ?_, ?_⟩
            · rw [exp_new hi hnew, List.map_append]
              exact ⟨us, h12, hd12⟩
            · rw [exp_new hi hnew]
              exact ⟨_, nd11.to e12, seen_put (x := (((R.row x.1.1).getD i 0, (S.row x.1.2).getD i 0), x.2 * R.b + i)) hsp8 hnew⟩
          · have hold : ((R.row x.1.1).getD i 0, (S.row x.1.2).getD i 0) ∈ (expand Prod.fst (pord R.mac S.mac R.b k) ((prow R.mac S.mac R.b x).take i)).map Prod.fst := Classical.byContradiction fun z => by
              have := hsp8.2 ((R.row x.1.1).getD i 0, (S.row x.1.2).getD i 0)
              rw [decide_eq_false z] at this
              rw [this] at hz; simp at hz
            refine ⟨p, _, _, rfl, e09.trans e10, (d5.to e9).to e10, ?_, ?_⟩
            · rw [exp_old hi hold]
              exact (hL8.to e9).to e10
            · rw [exp_old hi hold]
              exact ⟨_, (nd8.to e9).to e10, hsp8⟩
        · obtain ⟨p, y7, y8, rfl, e08, d5, hL8, kvs8, nd8, hsp8⟩ := hP
          have hfull : (prow R.mac S.mac R.b x).take R.b = prow R.mac S.mac R.b x := by
            rw [List.take_of_length_le]; simp [prow]
          rw [hfull, ← pord_next hx] at hL8 hsp8
          exact ⟨p, _, _, _, _, _, rfl, e08, hL8, ⟨kvs8, nd8, hsp8⟩, alike_next hx hal heq⟩
    · have hm := of_decide_eq_false hm
      obtain ⟨e, hal'⟩ := alike_stay (by omega) hal
      refine ⟨p, _, _, _, _, _, rfl, eH.trans e5, ?_, ?_, hal'⟩
      · rw [e]; exact hL.to e5
      · rw [e]; exact ⟨kvs, nd.to e5, hsp⟩
  · obtain ⟨p, y4, y5, y6, y7, y8, rfl, eH, hL, ⟨kvs, nd, hsp⟩, hal⟩ := hP
    refine q_ret' (K := K) ed_non fun z H7 e7 hz7 => kk z H7 (eH.trans e7) ?_
    rw [part_end (Nat.le_refl _) (pord_short ok ok' t.b _) hal]; exact hz7
end
end K63
/-! K63Work7: reader_both. -/
namespace K63
open PySem PySem.Spec PyProof.Rows L2 RZ
def pBoth (ds : List PyData) (r : PyData) : Prop := ∃ R S : Rd, ds = [tR R, tR S] ∧ Two R S ∧ r = tR (leastL (bothRd R S))
theorem mxl_lt {l : List Nat} {n : Nat} (h0 : 0 < l.length) (h : ∀ x ∈ l, x < n) : mxl l < n := h _ (mxl_mem h0)
theorem small_both {R S : Rd} (t : Two R S) : Small (bothRd R S) := by
  have ok := t.zr.toOk
  have ok' := t.zs.toOk
  refine ⟨t.sr.b, by rw [both_len]; exact t.n, fun x hx => ?_⟩
  obtain ⟨p, hp, rfl⟩ := List.mem_map.mp (show x ∈ (pairsOf R.mv.length S.mv.length).map fun p => R.show p.1 * (1 + mxl S.sh) + S.show p.2 from hx)
  have hp' := mem_pairsOf.mp (show (p.1, p.2) ∈ _ from hp)
  have h1 := t.lr (R.show p.1) (getD_mem (by rw [ok.shl]; exact hp'.1))
  have h2 := t.ls (S.show p.2) (getD_mem (by rw [ok'.shl]; exact hp'.2))
  have h3 := mxl_lt (by rw [ok'.shl]; exact ok'.pos) t.ls
  have : R.show p.1 * (1 + mxl S.sh) ≤ 29 * 30 := Nat.mul_le_mul (by omega) (by omega)
  omega
theorem mul_factors {a b : Nat} (ha : 0 < a) (hb : 0 < b) (h : a * b ≤ 60) : a ≤ 60 ∧ b ≤ 60 :=
  ⟨Nat.le_trans (Nat.le_mul_of_pos_right a hb) h, Nat.le_trans (Nat.le_mul_of_pos_left b ha) h⟩
section
variable {P : Program} {w : World} {K : PySem.W.Frag} {mg : Str → Option Value} {base : Heap} {H H' : Hp} {R S : Rd} {σ : L2.St} {tv tp td : TE}
/-- reader[1][place] -/
theorem ed_rowT {a : Nat} (hv : EvD K tv σ H (tR R)) (hp : EvD K tp σ H (nI a)) (ha : a < R.mv.length) : EvD K (tOp (rIxT K) (tOp (rIxT K) tv (tC (.int 1))) tp) σ H (tI (R.row a)) := by
  obtain ⟨r, hr⟩ := get_of_lt ha
  rw [show R.row a = r from getD_some hr]
  exact ed_ixII (ed_ixT (k := 1) hv ed_int rfl) hp hr
/-- reader[2][place] -/
theorem ed_showT {a : Nat} (ok : R.Ok) (hv : EvD K tv σ H (tR R)) (hp : EvD K tp σ H (nI a)) (ha : a < R.mv.length) : EvD K (tOp (rIxT K) (tOp (rIxT K) tv (tC (.int 2))) tp) σ H (nI (R.show a)) := by
  obtain ⟨t, ht⟩ := get_of_lt (l := R.sh) (i := a) (by rw [ok.shl]; exact ha)
  rw [show R.show a = t from getD_some ht]
  exact ed_ixI (ed_ixT (k := 2) hv ed_int rfl) hp ht
theorem pairs_data (m n : Nat) : ((List.range m).flatMap fun i => (List.range n).map fun l => pD (i, l)) = ((pairsOf m n).map fun p => (nI p.1, nI p.2)).map fun p => PyData.tuple [p.1, p.2] := by
  unfold pairsOf
  rw [List.map_map, List.map_flatMap]
  congr 1; funext i
  rw [List.map_map]; rfl
abbrev s_reader_both : Stmt := topS 29
theorem sc_reader_both : FnScope ["reader", "other", "much", "many", "pairs", "rows", "one", "late", "a", "b"] ["reader", "other"] (defScope s_reader_both) := ⟨rfl, rfl, rfl, by decide +kernel, rfl, by decide +kernel, by decide +kernel⟩
-- 0 reader, 1 other, 2 much, 3 many, 4 pairs, 5 rows, 6 one, 7 late, 8 a, 9 b
theorem ok_reader_both (B : Bn mg) (c_want_two : Cal P w K mg base "want_two" 7 ["reader", "other"] [] (spD K pTwo)) (c_least_of : Cal P w K mg base "least_of" 3 ["reader"] [] (spD K pLeast)) (c_made_of : Cal P w K mg base "made_of" 1 ["base", "rows", "shows"] [] (spMade K))
    {f : Addr} {fd : FuncData} (F : Fun K "reader_both" "reader_both" s_reader_both f fd) : FnOk P w K mg base CX0 8 f fd ["reader", "other"] (spD K pBoth) := by
  refine F.ok sc_reader_both (fun vs H Q E h => spD_len (n := 2) (fun ds r p => by obtain ⟨R, S, rfl, _⟩ := p; rfl) h) (fun cdv A outer s H vs Q E hr h => ?_)
  obtain ⟨ds, r, hd, ⟨R, S, rfl, t, rfl⟩, kk⟩ := h
  obtain ⟨v, u, rfl, hv, hu⟩ := hd.inv2
  refine ⟨_, (pss_cons (ps_expr (pe_callC c_want_two (hr.mono (by decide)) (by rfl) (pa_cons (pv 0) (pa_cons (pv 1) pa_nil))))
      (pss_cons (ps_asg (pe_tup (pa_cons (pe_op op_add pe_int (pe_callB (k_maxT K hr) (by rfl) B.max boot_max (pa_cons (pe_ix (k_ixT K) (pv 1) pe_int (fun _ _ => rfl)) pa_nil))) (pa_cons (pe_callB (k_len K) (by rfl) B.len PySem.boot_len (pa_cons (pe_ix (k_ixT K) (pv 1) pe_int (fun _ _ => rfl)) pa_nil)) pa_nil))) (k_pgt K (n := 2) rfl (pgs_cons (pg_name (i := 2) sc_reader_both.nd rfl (Or.inr rfl)) (pgs_cons (pg_name (i := 3) sc_reader_both.nd rfl (Or.inr rfl)) pgs_nil))))
      (pss_cons (ps_setLc2 (i := 4) (own := [("one", 6), ("late", 7)]) (vs1 := [7]) rfl sc_reader_both.nd rfl rfl (sw_true rfl rfl rfl (by decide +kernel)) (pi_range1 (by rfl) B.range (pa_cons (pe_callB (k_len K) (by rfl) B.len PySem.boot_len (pa_cons (pe_ix (k_ixT K) (pv 0) pe_int (fun _ _ => rfl)) pa_nil)) pa_nil)) (blkOk_by (by kernel_rfl)) (by decide) (fun _ _ _ _ _ => (pg_name (i := 6) sc_reader_both.nd rfl (Or.inl rfl))) (fun _ _ _ _ _ => pts_nil) (fun _ _ _ _ _ => (pi_range1 (by rfl) B.range (pa_cons (pv 3) pa_nil))) (fun _ _ _ _ _ => (pg_name (i := 7) sc_reader_both.nd rfl (Or.inl rfl))) (fun _ _ _ _ _ => pts_nil) (fun _ _ _ _ _ => (pe_tup (pa_cons (pv 6) (pa_cons (pv 7) pa_nil)))))
      (pss_cons (ps_setLc (i := 5) (own := [("one", 6), ("late", 7)]) rfl sc_reader_both.nd rfl rfl (sw_true rfl rfl rfl (by decide +kernel)) (k_pil K (pv 4)) (blkOk_by (by kernel_rfl)) (fun _ _ _ _ _ => (k_pgt K (n := 2) rfl (pgs_cons (pg_name (i := 6) sc_reader_both.nd rfl (Or.inl rfl)) (pgs_cons (pg_name (i := 7) sc_reader_both.nd rfl (Or.inl rfl)) pgs_nil)))) (fun _ _ _ _ _ => pts_nil) (fun _ _ _ _ _ => (pe_lc (own := [("a", 8), ("b", 9)]) rfl sc_reader_both.nd (k_zipA K (by rfl) B.zip (pa_cons (pe_ix (k_ixT K) (pe_ix (k_ixT K) (pv 0) pe_int (fun _ _ => rfl)) (pv 6) (fun _ _ => rfl)) (pa_cons (pe_ix (k_ixT K) (pe_ix (k_ixT K) (pv 1) pe_int (fun _ _ => rfl)) (pv 7) (fun _ _ => rfl)) pa_nil))) (blkOk_by (by kernel_rfl)) (fun _ _ _ _ _ => (k_pgt K (n := 2) rfl (pgs_cons (pg_name (i := 8) sc_reader_both.nd rfl (Or.inl rfl)) (pgs_cons (pg_name (i := 9) sc_reader_both.nd rfl (Or.inl rfl)) pgs_nil)))) (fun _ _ _ _ _ => pts_nil) (fun _ _ _ _ _ => (pe_op op_add (pe_op op_mul (pv 8) (pv 3)) (pv 9))))))
      (pss_one (ps_ret (pe_callC c_least_of (hr.mono (by decide)) (by rfl) (pa_cons (pe_callC c_made_of (hr.mono (by decide)) (by rfl) (pa_cons (pe_ix (k_ixT K) (pv 0) pe_int (fun _ _ => rfl)) (pa_cons (pv 5) (pa_cons (pe_lc (own := [("one", 6), ("late", 7)]) rfl sc_reader_both.nd (k_pil K (pv 4)) (blkOk_by (by kernel_rfl)) (fun _ _ _ _ _ => (k_pgt K (n := 2) rfl (pgs_cons (pg_name (i := 6) sc_reader_both.nd rfl (Or.inl rfl)) (pgs_cons (pg_name (i := 7) sc_reader_both.nd rfl (Or.inl rfl)) pgs_nil)))) (fun _ _ _ _ _ => pts_nil) (fun _ _ _ _ _ => (pe_op op_add (pe_op op_mul (pe_ix (k_ixT K) (pe_ix (k_ixT K) (pv 0) pe_int (fun _ _ => rfl)) (pv 6) (fun _ _ => rfl)) (pv 2)) (pe_ix (k_ixT K) (pe_ix (k_ixT K) (pv 1) pe_int (fun _ _ => rfl)) (pv 7) (fun _ _ => rfl))))) pa_nil)))) pa_nil)))))))), ?_⟩
  have ok := t.zr.toOk
  have ok' := t.zs.toOk
  have hN := t.n
  have hb4 := t.sr.b
  obtain ⟨hn1, hn2⟩ := mul_factors ok.pos ok'.pos t.n
  have hmx := mxl_lt (by rw [ok'.shl]; exact ok'.pos) t.ls
  have okB := both_ok ok ok' t.b
  refine q_drop (K := K) (ed_call0 (ea_cons (ed_var rfl hv) (ea_one (ed_var rfl hu))) ⟨R, S, rfl, t, rfl⟩) fun H1 e1 => ?_
  refine q_un2DD (K := K) (d := nI (1 + mxl S.sh)) (d2 := nI S.mv.length) (ed_add (a := 1) ed_int (ed_maxT (ed_ixT (k := 2) (ed_var rfl (hu.to e1)) ed_int rfl) (by rw [ok'.shl]; exact ok'.pos))) (ed_lenII (ed_ixT (k := 1) (ed_var rfl (hu.to e1)) ed_int rfl)) fun v2 v3 H2 e2 h2 h3 => ?_
  cases h2.inv_int
  cases h3.inv_int
  have e02 := e1.trans e2
  refine q_L (K := K) (ds := ((pairsOf R.mv.length S.mv.length).map fun p => (nI p.1, nI p.2)).map fun p => PyData.tuple [p.1, p.2]) ?_ fun pp vs H3 hp3 e3 h3l hd3 => ?_
  · rw [← pairs_data]
    exact el_comp2R (m := R.mv.length) (n := S.mv.length) (f := fun i l => pD (i, l)) (ea_one (ed_lenII (ed_ixT (k := 1) (ed_var rfl (hv.to e02)) ed_int rfl))) (by omega) (by omega) (fun _ => rfl) (fun _ _ => rfl)
      (fun i hi H3 e3 => ea_one (ed_var rfl (.int _))) (fun i l hi hl H3 e3 => ed_tup (ea_cons (ed_var rfl (.int _)) (ea_one (ed_var rfl (.int _)))) (Nat.le_of_ble_eq_true rfl))
  have e03 := e02.trans e3
  have hL3 : Ls K H3 pp _ := ⟨vs, h3l, hd3⟩
  have hpl : (pairsOf R.mv.length S.mv.length).length ≤ 60 := by rw [pairsOf_len]; exact hN
  have hget : ∀ {i : Nat} {d1 d2 : PyData}, ((pairsOf R.mv.length S.mv.length).map fun p => (nI p.1, nI p.2))[i]? = some (d1, d2) → ∃ a c, (pairsOf R.mv.length S.mv.length)[i]? = some (a, c) ∧ d1 = nI a ∧ d2 = nI c ∧ a < R.mv.length ∧ c < S.mv.length := by
    intro i d1 d2 h
    rw [List.getElem?_map] at h
    cases e : (pairsOf R.mv.length S.mv.length)[i]? with
    | none => rw [e] at h; cases h
    | some p =>
      rw [e] at h
      obtain ⟨a, c⟩ := p
      have hh := Option.some.inj h
      have hm := mem_pairsOf.mp (List.mem_of_getElem? e)
      exact ⟨a, c, rfl, (congrArg Prod.fst hh).symm, (congrArg Prod.snd hh).symm, hm.1, hm.2⟩
  refine q_LL (K := K) (dss := (pairsOf R.mv.length S.mv.length).map fun p => (List.zipWith (fun a c => a * S.mv.length + c) (R.row p.1) (S.row p.2)).map nI) (ell_comp2 (src_list (vv_var rfl) hL3) (by simp) (by rw [List.length_map]; omega) (fun _ _ => rfl) fun i d1 d2 r x y H4 hd hr e4 hx hy => ?_) fun pr H4 hpr e4 hLL => ?_
  · obtain ⟨a, c, hac, rfl, rfl, ha, hc⟩ := hget hd
    rw [List.getElem?_map, hac] at hr
    obtain rfl := Option.some.inj hr
    have e04 := e03.trans e4
    have la := ok.row_len ha
    have lc := ok'.row_len hc
    have hbb := t.b
    have zl : (pairsD ((R.row a).map nI) ((S.row c).map nI)).length = R.b := by unfold pairsD; simp; omega
    refine el_comp2 (ps := pairsD ((R.row a).map nI) ((S.row c).map nI)) (src_zipA (ed_rowT (ed_var rfl (hv.to e04)) (ed_var rfl hx) ha) (ed_rowT (ed_var rfl (hu.to e04)) (ed_var rfl hy) hc) (by simp; omega)) (by rw [zl]; simp; omega) (by omega) (fun _ _ => rfl) fun k d1 d2 r x y H5 hd hr e5 hx hy => ?_
    unfold pairsD at hd
    rw [List.getElem?_zip_eq_some] at hd
    obtain ⟨hd1, hd2⟩ := hd
    simp only [List.getElem?_map] at hd1 hd2
    cases ea : (R.row a)[k]? with
    | none => simp [ea] at hd1
    | some g =>
      cases eb : (S.row c)[k]? with
      | none => simp [eb] at hd2
      | some g' =>
        rw [ea] at hd1
        rw [eb] at hd2
        obtain rfl : nI g = d1 := Option.some.inj hd1
        obtain rfl : nI g' = d2 := Option.some.inj hd2
        have : r = nI (g * S.mv.length + g') := by
          rw [List.getElem?_map, List.getElem?_zipWith] at hr
          simp only [ea, eb] at hr
          exact (Option.some.inj hr).symm
        subst this
        exact ed_add (ed_mul (ed_var rfl hx) (ed_var rfl (.int _)) (by omega)) (ed_var rfl hy)
  · have e04 := e03.trans e4
    refine q_ret' (ed_call0 (pre := pLeast) (ds := [tR (bothRd R S)]) (ea_one ((ed_made (b := R.b) (sh := ((pairsOf R.mv.length S.mv.length).map fun p => R.show p.1 * (1 + mxl S.sh) + S.show p.2).map nI) (ed_ixT (k := 0) (ed_var rfl (hv.to e04)) ed_int rfl) (vv_var rfl) hLL
      (el_comp2 (src_list (vv_var rfl) (hL3.to e4)) (by simp) (by rw [List.length_map]; omega) (fun _ _ => rfl) fun i d1 d2 r x y H5 hd hr e5 hx hy => ?_) (by simp; omega)).is ?_)) ⟨bothRd R S, rfl, okB, small_both t, rfl⟩) fun x H7 e7 hx => kk x H7 (e04.trans e7) (by rw [← least_eq okB]; exact hx)
    · obtain ⟨a, c, hac, rfl, rfl, ha, hc⟩ := hget hd
      have : r = nI (R.show a * (1 + mxl S.sh) + S.show c) := by
        rw [List.getElem?_map, List.getElem?_map, hac] at hr
        exact (Option.some.inj hr).symm
      subst this
      have e05 := e04.trans e5
      exact ed_add (ed_mul (ed_showT ok (ed_var rfl (hv.to e05)) (ed_var rfl hx) ha) (ed_var rfl (.int _)) (by omega)) (ed_showT ok' (ed_var rfl (hu.to e05)) (ed_var rfl hy) hc)
    · simp [tR, bothRd, tII, tI, List.map_map, Function.comp_def]
end
end K63
/-! K63Work13: the law's reader of both. -/
namespace K63
open PySem PySem.Spec PyProof.Rows L2 RZ
def pBothL (ds : List PyData) (r : PyData) : Prop := ∃ R S : Rd, ds = [tR R, tR S] ∧ Two R S ∧ r = tR (bothRd R S)
def prUp (n i : Nat) : List (Nat × Nat) := (List.range i).flatMap fun a => (List.range n).map fun b => (a, b)
theorem prUp_next (n i : Nat) : prUp n (i + 1) = prUp n i ++ (List.range n).map fun b => (i, b) := flat_next _ i
theorem prUp_len (n i : Nat) : (prUp n i).length = i * n := by
  have := pairsOf_len i n
  exact this
def rowD (R S : Rd) (x : Nat × Nat) : PyData := tI (List.zipWith (fun a c => a * S.mv.length + c) (R.row x.1) (S.row x.2))
def shD (R S : Rd) (x : Nat × Nat) : PyData := nI (R.show x.1 * (1 + mxl S.sh) + S.show x.2)
theorem zip_row {a c : List Nat} {b n : Nat} (h1 : a.length = b) (h2 : c.length = b) : (List.range b).map (fun d => a.getD d 0 * n + c.getD d 0) = List.zipWith (fun x y => x * n + y) a c := by
  refine List.ext_getElem? fun i => ?_
  rw [List.getElem?_map, List.getElem?_zipWith]
  by_cases hi : i < b
  · obtain ⟨x, hx⟩ := get_of_lt (l := a) (i := i) (by omega)
    obtain ⟨y, hy⟩ := get_of_lt (l := c) (i := i) (by omega)
    rw [List.getElem?_range hi, hx, hy]
    simp only [Option.map_some]
    rw [getD_some hx, getD_some hy]
  · rw [List.getElem?_eq_none (by simp; omega), List.getElem?_eq_none (show a.length ≤ i by omega)]; rfl
section
variable {P : Program} {w : World} {K : PySem.W.Frag} {mg : Str → Option Value} {base : Heap} {H H' : Hp} {R S : Rd} {σ : L2.St} {ta tb tc : TE} {D : Ends} {tz : TS} {i j : Nat} {ds es : List PyData}
theorem q_parLL (h : EvL K ta σ H ds) (hb : EvL K tb σ H es) (k : ∀ p q vs ws H1, H p = none → H q = none → p ≠ q → Same H H1 → H1 p = some (.lst vs) → DiAll K H1 vs ds → H1 q = some (.lst ws) → DiAll K H1 ws es → tz D ((σ.set i (some (.ref p))).set j (some (.ref q))) H1) :
    tSeq (tPar i j (tCons ta (tCons tb tNil))) tz D σ H := h H (Same.refl H) _ fun p vs H1 hp e1 h1 hv => hb H1 e1 _ fun q ws H2 hq e2 h2 hw =>
  ⟨_, _, rfl, k p q vs ws H2 hp (e1.free hq) (fun z => by rw [← z, h1] at hq; cases hq) (e1.trans e2) (e2 _ _ h1) (hv.to e2) h2 hw⟩
/-- reader[1][place][digit] -/
theorem ed_goT {a d : Nat} (ok : R.Ok) (hv : EvD K ta σ H (tR R)) (hp : EvD K tb σ H (nI a)) (hd : EvD K tc σ H (nI d)) (ha : a < R.mv.length) (hdb : d < R.b) : EvD K (tOp (rIxT K) (tOp (rIxT K) (tOp (rIxT K) ta (tC (.int 1))) tb) tc) σ H (nI ((R.row a).getD d 0)) := by
  obtain ⟨t, ht⟩ := get_of_lt (l := R.row a) (i := d) (by rw [ok.row_len ha]; exact hdb)
  rw [getD_some ht]
  exact ed_ixI (ed_rowT hv hp ha) hd ht
abbrev s_law_both : Stmt := topS 38
theorem sc_law_both : FnScope ["_law_one", "_law_other", "_law_many", "_law_top", "_law_moves", "_law_shows", "_law_k", "_law_j", "_law_digit"] ["_law_one", "_law_other"] (defScope s_law_both) := ⟨rfl, rfl, rfl, by decide +kernel, rfl, by decide +kernel, by decide +kernel⟩
-- 0 _law_one, 1 _law_other, 2 _law_many, 3 _law_top, 4 _law_moves, 5 _law_shows, 6 _law_k, 7 _law_j, 8 _law_digit
theorem ok_law_both (B : Bn mg) {f : Addr} {fd : FuncData} (F : Fun K "_law_both" "_law_both" s_law_both f fd) : FnOk P w K mg base CX0 1 f fd ["_law_one", "_law_other"] (spD K pBothL) := by
  refine F.ok sc_law_both (fun vs H Q E h => spD_len (n := 2) (fun ds r p => by obtain ⟨R, S, rfl, _⟩ := p; rfl) h) (fun cdv A outer s H vs Q E hr h => ?_)
  obtain ⟨ds, r, hd, ⟨R, S, rfl, t, rfl⟩, kk⟩ := h
  obtain ⟨v, u, rfl, hv, hu⟩ := hd.inv2
  refine ⟨_, (pss_cons (ps_asg (pe_tup (pa_cons (pe_callB (k_len K) (by rfl) B.len PySem.boot_len (pa_cons (pe_ix (k_ixT K) (pv 1) pe_int (fun _ _ => rfl)) pa_nil)) (pa_cons (pe_op op_add pe_int (pe_callB (k_maxT K hr) (by rfl) B.max boot_max (pa_cons (pe_ix (k_ixT K) (pv 1) pe_int (fun _ _ => rfl)) pa_nil))) pa_nil))) (k_pgt K (n := 2) rfl (pgs_cons (pg_name (i := 2) sc_law_both.nd rfl (Or.inr rfl)) (pgs_cons (pg_name (i := 3) sc_law_both.nd rfl (Or.inl rfl)) pgs_nil))))
      (pss_cons (ps_par (i := 4) (j := 5) rfl sc_law_both.nd rfl rfl (by decide) rfl rfl (pa_cons (pe_lst pa_nil) (pa_cons (pe_lst pa_nil) pa_nil)) (by rfl))
      (pss_cons (ps_for PassesOwn.never rfl (pi_range1 (by rfl) B.range (pa_cons (pe_callB (k_len K) (by rfl) B.len PySem.boot_len (pa_cons (pe_ix (k_ixT K) (pv 0) pe_int (fun _ _ => rfl)) pa_nil)) pa_nil)) (pg_name (i := 6) sc_law_both.nd rfl (Or.inr rfl))
      (pss_one (ps_for PassesOwn.never rfl (pi_range1 (by rfl) B.range (pa_cons (pv 2) pa_nil)) (pg_name (i := 7) sc_law_both.nd rfl (Or.inr rfl))
      (pss_cons (ps_expr (k_bm K PySem.F.plainAttrs_list PySem.F.slot_list_append PySem.F.type_list_append mt_append (pv 4) (pa_cons (pe_callTy (k_tup K) (by rfl) B.tuple boot_tuple (pa_cons (pe_lc (own := [("_law_digit", 8)]) rfl sc_law_both.nd (pi_range1 (by rfl) B.range (pa_cons (pe_ix (k_ixT K) (pv 0) pe_int (fun _ _ => rfl)) pa_nil)) (blkOk_by (by kernel_rfl)) (fun _ _ _ _ _ => (pg_name (i := 8) sc_law_both.nd rfl (Or.inl rfl))) (fun _ _ _ _ _ => pts_nil) (fun _ _ _ _ _ => (pe_op op_add (pe_op op_mul (pe_ix (k_ixT K) (pe_ix (k_ixT K) (pe_ix (k_ixT K) (pv 0) pe_int (fun _ _ => rfl)) (pv 6) (fun _ _ => rfl)) (pv 8) (fun _ _ => rfl)) (pv 2)) (pe_ix (k_ixT K) (pe_ix (k_ixT K) (pe_ix (k_ixT K) (pv 1) pe_int (fun _ _ => rfl)) (pv 7) (fun _ _ => rfl)) (pv 8) (fun _ _ => rfl))))) pa_nil)) pa_nil)))
      (pss_one (ps_expr (k_bm K PySem.F.plainAttrs_list PySem.F.slot_list_append PySem.F.type_list_append mt_append (pv 5) (pa_cons (pe_op op_add (pe_op op_mul (pe_ix (k_ixT K) (pe_ix (k_ixT K) (pv 0) pe_int (fun _ _ => rfl)) (pv 6) (fun _ _ => rfl)) (pv 3)) (pe_ix (k_ixT K) (pe_ix (k_ixT K) (pv 1) pe_int (fun _ _ => rfl)) (pv 7) (fun _ _ => rfl))) pa_nil))))))))
      (pss_one (ps_ret (pe_tup (pa_cons (pe_ix (k_ixT K) (pv 0) pe_int (fun _ _ => rfl)) (pa_cons (pe_callTy (k_tup K) (by rfl) B.tuple boot_tuple (pa_cons (pv 4) pa_nil)) (pa_cons (pe_callTy (k_tup K) (by rfl) B.tuple boot_tuple (pa_cons (pv 5) pa_nil)) pa_nil))))))))), ?_⟩
  have ok := t.zr.toOk
  have ok' := t.zs.toOk
  have hN := t.n
  have hb4 := t.sr.b
  obtain ⟨hn1, hn2⟩ := mul_factors ok.pos ok'.pos t.n
  have hmx := mxl_lt (by rw [ok'.shl]; exact ok'.pos) t.ls
  refine q_un2DD (K := K) (d := nI S.mv.length) (d2 := nI (1 + mxl S.sh)) (ed_lenII (ed_ixT (k := 1) (ed_var rfl hu) ed_int rfl)) (ed_add (a := 1) ed_int (ed_maxT (ed_ixT (k := 2) (ed_var rfl hu) ed_int rfl) (by rw [ok'.shl]; exact ok'.pos))) fun v2 v3 H1 e1 h2 h3 => ?_
  cases h2.inv_int
  cases h3.inv_int
  refine q_parLL (K := K) (el_lst ea_nil (by simp)) (el_lst ea_nil (by simp)) fun p q vs ws H2 hp hq pq e2 hp2 hd2 hq2 hw2 => ?_
  cases hd2
  cases hw2
  have pH := e1.free hp
  have qH := e1.free hq
  have hcount : ∀ i l, i < R.mv.length → l ≤ S.mv.length → i * S.mv.length + l ≤ 60 := fun i l hi hl => by
    have : (i + 1) * S.mv.length ≤ R.mv.length * S.mv.length := Nat.mul_le_mul_right _ hi
    rw [Nat.add_mul] at this
    omega
  refine q_rng (K := K) (m := R.mv.length) (ea_one (ed_lenII (ed_ixT (k := 1) (ed_var rfl (hv.to (e1.trans e2))) ed_int rfl))) (by omega)
    (fun i σ' H' => ∃ y6 y7, σ' = [some v, some u, some (vN S.mv.length), some (vN (1 + mxl S.sh)), some (.ref p), some (.ref q), y6, y7, none] ∧ Same H H' ∧ Ls K H' p ((prUp S.mv.length i).map (rowD R S)) ∧ Ls K H' q ((prUp S.mv.length i).map (shD R S)))
    (fun H3 e3 => ⟨none, none, rfl, (e1.trans e2).trans e3, Ls.to ⟨[], hp2, .nil⟩ e3, Ls.to ⟨[], hq2, .nil⟩ e3⟩) (fun i σ' H3 hi hP => ?_) fun σ' H3 hP => ?_
  · obtain ⟨y6, y7, rfl, e3, hLp, hLq⟩ := hP
    refine s_rng (K := K) (m := S.mv.length) (ea_one (ed_var rfl (.int _))) (by omega)
      (fun l σ' H' => ∃ y7, σ' = [some v, some u, some (vN S.mv.length), some (vN (1 + mxl S.sh)), some (.ref p), some (.ref q), some (vN i), y7, none] ∧ Same H H' ∧ Ls K H' p ((prUp S.mv.length i ++ (List.range l).map fun b => (i, b)).map (rowD R S)) ∧ Ls K H' q ((prUp S.mv.length i ++ (List.range l).map fun b => (i, b)).map (shD R S)))
      (fun H4 e4 => ⟨y7, rfl, e3.trans e4, by simpa using hLp.to e4, by simpa using hLq.to e4⟩) (fun l σ' H4 hl hP => ?_) fun σ' H4 hP => ?_
    · obtain ⟨y7, rfl, e4, hLp, hLq⟩ := hP
      have hc := hcount i l hi (Nat.le_of_lt hl)
      have h60 : ∀ {α : Type} (f : Nat × Nat → α), ((prUp S.mv.length i ++ (List.range l).map fun b => (i, b)).map f).length < 100000 := fun f => by
        rw [List.length_map, List.length_append, prUp_len, List.length_map, List.length_range]; omega
      have hla := ok.row_len hi
      have hlc := ok'.row_len hl
      have hsnoc : ∀ f : Nat × Nat → PyData, (prUp S.mv.length i ++ (List.range (l + 1)).map fun b => (i, b)).map f = (prUp S.mv.length i ++ (List.range l).map fun b => (i, b)).map f ++ [f (i, l)] := fun f => by
        rw [List.range_succ]; simp
      refine q_app (K := K) (d := rowD R S (i, l)) hLp (vv_var rfl) ((ed_row (xs := List.range R.b) (f := fun d => (R.row i).getD d 0 * S.mv.length + (S.row l).getD d 0) (src_rng (ea_one (ed_ixT (k := 0) (ed_var rfl (hv.to e4)) ed_int rfl)) (by omega)) (by simp; omega) (fun _ => rfl) fun z H5 hz e5 => ?_).is
        (by rw [zip_row hla (by rw [hlc, ← t.b])]; rfl)) (h60 _) fun H5 o5 e5 nt5 hLp5 => ?_
      · have hz : z < R.b := by simpa using hz
        have e05 := e4.trans e5
        exact ed_add (ed_mul (ed_goT ok (ed_var rfl (hv.to e05)) (ed_var rfl (.int _)) (ed_var rfl (.int _)) hi hz) (ed_var rfl (.int _)) (by omega)) (ed_goT ok' (ed_var rfl (hu.to e05)) (ed_var rfl (.int _)) (ed_var rfl (.int _)) hl (by rw [← t.b]; exact hz))
      · have e05 : Same H (upd H5 p o5) := Same.mut (e4.trans e5) pH
        have hLq5 : Ls K (upd H5 p o5) q _ := (hLq.to e5).other nt5 pq
        refine s_app (K := K) (d := shD R S (i, l)) hLq5 (vv_var rfl) (ed_add (ed_mul (ed_showT ok (ed_var rfl (hv.to e05)) (ed_var rfl (.int _)) hi) (ed_var rfl (.int _)) (by omega)) (ed_showT ok' (ed_var rfl (hu.to e05)) (ed_var rfl (.int _)) hl)) (h60 _) fun H6 o6 e6 nt6 hLq6 => ?_
        refine ⟨_, rfl, Same.mut (e05.trans e6) qH, ?_, ?_⟩
        · rw [hsnoc]; exact (hLp5.to e6).other nt6 (Ne.symm pq)
        · rw [hsnoc]; exact hLq6
    · obtain ⟨y7, rfl, e4, hLp, hLq⟩ := hP
      rw [← prUp_next] at hLp hLq
      exact ⟨_, _, rfl, e4, hLp, hLq⟩
  · obtain ⟨y6, y7, rfl, e3, hLp, hLq⟩ := hP
    refine q_ret' (K := K) ((ed_tup (ds := [nI R.b, .tuple ((prUp S.mv.length R.mv.length).map (rowD R S)), .tuple ((prUp S.mv.length R.mv.length).map (shD R S))]) (ea_cons (ed_ixT (k := 0) (ed_var rfl (hv.to e3)) ed_int rfl) (ea_cons (ed_tupLs (vv_var rfl) hLp) (ea_one (ed_tupLs (vv_var rfl) hLq)))) (Nat.le_of_ble_eq_true rfl)).is ?_) fun x H4 e4 hx => kk x H4 (e3.trans e4) hx
    simp [tR, bothRd, tII, tI, List.map_map, Function.comp_def, rowD, shD, prUp, pairsOf]
end
end K63
/-! K63Lay16: repr, == and is None of data. -/
namespace K63
open PySem PySem.Spec PyProof.Rows L2 RZ
def nonD : PyData → Bool
  | .none => true
  | _ => false
/-- small enough to be shown -/
structure Sh (d : PyData) (W k : Nat) : Prop where
  sh : d.showable = true
  cl : d.canLay0 = true
  lv : d.leavesShort 101 = true
  we : d.weight ≤ W
  de : d.depth ≤ k
structure ShAll (xs : List PyData) (W k : Nat) : Prop where
  sh : PyData.showableAll xs = true
  cl : PyData.canLayAll0 xs = true
  lv : PyData.leavesShortAll 101 xs = true
  we : PyData.weightAll xs ≤ xs.length * (W + 1)
  de : PyData.depthAll xs ≤ k
theorem sh_none : Sh .none 0 0 := ⟨rfl, rfl, rfl, Nat.le_refl _, Nat.le_refl _⟩
theorem log_lt {n w : Nat} (h : n < 2 ^ w) (hw : 0 < w) : n.log2 < w := by
  by_cases e : n = 0
  · subst e; exact hw
  · exact (Nat.log2_lt e).mpr h
theorem sh_int {n w : Nat} (h : n < 2 ^ w) (hw : 0 < w) (hw2 : w ≤ 100) : Sh (nI n) w 0 := by
  have hl := log_lt h hw
  refine ⟨?_, rfl, ?_, ?_, Nat.le_refl _⟩
  · show decide ((n : Int).natAbs.log2 < 1920) = true
    exact decide_eq_true (show n.log2 < 1920 by omega)
  · show decide ((PyData.shown (.int (n : Int))).length ≤ 101) = true
    refine decide_eq_true ?_
    have := int_text_length_le (a := (n : Int)) (k := 100) (by decide) (show n.log2 < 100 by omega)
    show (Str.ofString (toString (n : Int))).length ≤ 101
    rw [PySem.ofString_length]; exact this
  · show (if (n : Int) == 0 then 0 else (n : Int).natAbs.log2 + 1) ≤ w
    split
    · omega
    · show n.log2 + 1 ≤ w; omega
theorem Sh.up {d : PyData} {W k W' k' : Nat} (h : Sh d W k) (h1 : W ≤ W') (h2 : k ≤ k') : Sh d W' k' := ⟨h.sh, h.cl, h.lv, Nat.le_trans h.we h1, Nat.le_trans h.de h2⟩
theorem shAll_nil {W k : Nat} : ShAll [] W k := ⟨rfl, rfl, rfl, Nat.zero_le _, Nat.zero_le _⟩
theorem shAll_cons {d : PyData} {xs : List PyData} {W k : Nat} (h : Sh d W k) (t : ShAll xs W k) : ShAll (d :: xs) W k := by
  refine ⟨?_, ?_, ?_, ?_, ?_⟩
  · show (d.showable && PyData.showableAll xs) = true; rw [h.sh, t.sh]; rfl
  · show (d.canLay0 && PyData.canLayAll0 xs) = true; rw [h.cl, t.cl]; rfl
  · show (d.leavesShort 101 && PyData.leavesShortAll 101 xs) = true; rw [h.lv, t.lv]; rfl
  · show d.weight + 1 + PyData.weightAll xs ≤ (xs.length + 1) * (W + 1)
    have h1 := h.we
    have h2 := t.we
    rw [Nat.add_mul xs.length 1 (W + 1), Nat.one_mul]; omega
  · show max d.depth (PyData.depthAll xs) ≤ k
    have h1 := h.de
    have h2 := t.de
    omega
theorem shAll_of {xs : List PyData} {W k : Nat} (h : ∀ d ∈ xs, Sh d W k) : ShAll xs W k := by
  induction xs with
  | nil => exact shAll_nil
  | cons d xs ih => exact shAll_cons (h d (by simp)) (ih fun e he => h e (by simp [he]))
theorem ShAll.tup {xs : List PyData} {W k m : Nat} (h : ShAll xs W k) (hm : xs.length ≤ m) : Sh (.tuple xs) (m * (W + 1)) (k + 1) := by
  refine ⟨h.sh, h.cl, h.lv, ?_, Nat.succ_le_succ h.de⟩
  show PyData.weightAll xs ≤ _
  exact Nat.le_trans h.we (Nat.mul_le_mul_right _ hm)
theorem ShAll.lst {xs : List PyData} {W k m : Nat} (h : ShAll xs W k) (hm : xs.length ≤ m) : Sh (.list xs) (m * (W + 1)) (k + 1) := by
  refine ⟨h.sh, h.cl, h.lv, ?_, Nat.succ_le_succ h.de⟩
  show PyData.weightAll xs ≤ _
  exact Nat.le_trans h.we (Nat.mul_le_mul_right _ hm)
theorem sh_ints {ns : List Nat} {m : Nat} (h : ∀ x ∈ ns, x < 2 ^ 10) (hm : ns.length ≤ m) : Sh (tI ns) (m * 11) 1 := by
  refine ShAll.tup (W := 10) (shAll_of fun d hd => ?_) (by rw [List.length_map]; exact hm)
  obtain ⟨x, hx, rfl⟩ := List.mem_map.mp hd
  exact sh_int (h x hx) (by decide) (by decide)
/-- a reader of at most 60 places -/
theorem sh_rd {R : Rd} (ok : R.Ok) (hb : R.b ≤ 4) (hn : R.mv.length ≤ 60) (hs : ∀ x ∈ R.sh, x < 1000) : Sh (tR R) 9000 3 := by
  have p10 : (2 : Nat) ^ 10 = 1024 := by decide
  have h1 : Sh (nI R.b) 2700 2 := (sh_int (n := R.b) (w := 10) (by omega) (by decide) (by decide)).up (by decide) (by decide)
  have h2 : Sh (tII R.mv) 2700 2 := by
    have : Sh (tII R.mv) (60 * (44 + 1)) 2 := ShAll.tup (W := 44) (k := 1) (shAll_of fun d hd => by
      obtain ⟨r, hr, rfl⟩ := List.mem_map.mp hd
      exact (sh_ints (m := 4) (fun x hx => by have := ok.inn r hr x hx; omega) (by rw [ok.wide r hr]; exact hb)).up (by decide) (by decide)) (by rw [List.length_map]; exact hn)
    exact this.up (by decide) (by decide)
  have h3 : Sh (tI R.sh) 2700 2 := (sh_ints (m := 60) (fun x hx => by have := hs x hx; omega) (by rw [ok.shl]; exact hn)).up (by decide) (by decide)
  exact (ShAll.tup (m := 3) (shAll_cons h1 (shAll_cons h2 (shAll_cons h3 shAll_nil))) (by simp)).up (by decide) (by decide)
section
variable {K : PySem.W.Frag} {σ : L2.St} {H H' : Hp} {ta tb : TE} {d e : PyData} {ds : List PyData} {p : Addr} {W k : Nat}
theorem Sh.len (h : Sh d W k) (hW : W ≤ 100000) : d.shown.length ≤ sizeLine := by
  have h1 := PyData.shown_le 101 (by decide) d h.lv
  have h2 := h.we
  rw [sizeLine_eq]; omega
theorem ed_repr (ha : EvD K ta σ H d) (h : Sh d W k) (hW : W ≤ 100000) (hk : k ≤ 60) : EvD K (tCB (rRepr K) (tCons ta tNil)) σ H (.str d.shown) := fun H1 e Q q => ha H1 e _ fun v H2 e2 hv =>
  ⟨v, d, rfl, Di.dp d v hv, h.sh, PyData.hasDict_of_canLay d h.cl, h.len hW, Nat.le_trans h.de (by omega), q _ H2 e2 (.str _)⟩
theorem ed_reprL (ha : EvV ta σ H (.ref p)) (hp : Ls K H p ds) (h : Sh (.list ds) W k) (hW : W ≤ 100000) (hk : k ≤ 60) : EvD K (tCB (rRepr K) (tCons ta tNil)) σ H (.str (PyData.list ds).shown) := fun H1 e Q q => ha H1 e _ fun H2 e2 => by
  obtain ⟨vs, h1, h2⟩ := hp.to (e.trans e2)
  exact ⟨.ref p, .list ds, rfl, .lst (.of h1) (DiAll.dp ds vs h2), h.sh, PyData.hasDict_of_canLay _ h.cl, h.len hW, Nat.le_trans h.de (by omega), q _ H2 e2 (.str _)⟩
theorem ed_strs {r : R2} {a b : Str} (ha : EvD K ta σ H (.str a)) (hb : EvD K tb σ H (.str b)) (hr : ∀ H1 (Q : VK), (∀ v, Di K H1 v d → Q v H1) → r (.str a) (.str b) H1 Q) : EvD K (tOp r ta tb) σ H d := fun H1 e Q q =>
  ha H1 e _ fun x H2 e2 hx => hb H2 (e.trans e2) _ fun y H3 e3 hy => by
    rw [hx.inv_str, hy.inv_str]
    exact hr H3 Q fun v hv => q v H3 (e2.trans e3) hv
/-- the same text -/
theorem ed_neS {a : Str} (ha : EvD K ta σ H (.str a)) (hb : EvD K tb σ H (.str a)) : EvD K (tOp rNe ta tb) σ H (.bool false) := ed_strs ha hb fun H1 Q q => ⟨rfl, by
  have e : (!decide (V.str a = V.str a)) = false := by simp
  rw [e]; exact q _ (.bl _)⟩
theorem ed_eqS {a : Str} (ha : EvD K ta σ H (.str a)) (hb : EvD K tb σ H (.str a)) : EvD K (tOp rEq ta tb) σ H (.bool true) := ed_strs ha hb fun H1 Q q => ⟨rfl, by
  have e : decide (V.str a = V.str a) = true := by simp
  rw [e]; exact q _ (.bl _)⟩
theorem ed_neB {a b : Bool} (ha : EvD K ta σ H (.bool a)) (hb : EvD K tb σ H (.bool b)) (he : a = b) : EvD K (tOp rNe ta tb) σ H (.bool false) := fun H1 e Q q =>
  ha H1 e _ fun x H2 e2 hx => hb H2 (e.trans e2) _ fun y H3 e3 hy => by
    rw [hx.inv_bl, hy.inv_bl, he]
    refine ⟨rfl, ?_⟩
    have e : (!decide (V.bl b = V.bl b)) = false := by simp
    rw [e]; exact q _ H3 (e2.trans e3) (.bl _)
theorem ed_eqD {W' k' : Nat} (ha : EvD K ta σ H d) (hb : EvD K tb σ H e) (h1 : Sh d W k) (h2 : Sh e W' k') (hk : k ≤ 60) (hk' : k' ≤ 60) : EvD K (tOp (rEqD K) ta tb) σ H (.bool (PyData.eqv d e)) := fun H1 e' Q q =>
  ha H1 e' _ fun x H2 e2 hx => hb H2 (e'.trans e2) _ fun y H3 e3 hy =>
    ⟨d, e, Di.dp d x (hx.to e3), Di.dp e y hy, Bool.and_eq_true_iff.mpr ⟨h1.cl, decide_eq_true (Nat.le_trans h1.de (by omega))⟩, Bool.and_eq_true_iff.mpr ⟨h2.cl, decide_eq_true (Nat.le_trans h2.de (by omega))⟩, q _ H3 (e2.trans e3) (.bl _)⟩
theorem ed_isN (ha : EvD K ta σ H d) : EvD K (tOp rIsNn ta (tC .non)) σ H (.bool (nonD d)) := fun H1 e Q q => ha H1 e _ fun v H2 e2 hv => by
  refine ⟨rfl, ?_⟩
  cases hv with
  | non => exact q _ H2 e2 (.bl _)
  | bl _ => exact q _ H2 e2 (.bl _)
  | int _ => exact q _ H2 e2 (.bl _)
  | str _ => exact q _ H2 e2 (.bl _)
  | tup _ _ => exact q _ H2 e2 (.bl _)
theorem ed_notN (ha : EvD K ta σ H d) : EvD K (tOp rNotNn ta (tC .non)) σ H (.bool (!nonD d)) := fun H1 e Q q => ha H1 e _ fun v H2 e2 hv => by
  refine ⟨rfl, ?_⟩
  cases hv with
  | non => exact q _ H2 e2 (.bl _)
  | bl _ => exact q _ H2 e2 (.bl _)
  | int _ => exact q _ H2 e2 (.bl _)
  | str _ => exact q _ H2 e2 (.bl _)
  | tup _ _ => exact q _ H2 e2 (.bl _)
end
/-! == of readers -/
theorem eqv_ints : ∀ ns ms : List Nat, PyData.eqvAll (ns.map nI) (ms.map nI) = decide (ns = ms)
  | [], [] => rfl
  | [], _ :: _ => rfl
  | _ :: _, [] => rfl
  | n :: ns, m :: ms => by
    show (((n : Int) == (m : Int)) && PyData.eqvAll (ns.map nI) (ms.map nI)) = _
    rw [eqv_ints ns ms]
    by_cases e : n = m
    · subst e; simp
    · have : ((n : Int) == (m : Int)) = false := beq_eq_false_iff_ne.mpr (by omega)
      rw [this]; simp [e]
theorem eqv_rows : ∀ rs ss : List (List Nat), PyData.eqvAll (rs.map tI) (ss.map tI) = decide (rs = ss)
  | [], [] => rfl
  | [], _ :: _ => rfl
  | _ :: _, [] => rfl
  | r :: rs, s :: ss => by
    show (PyData.eqvAll (r.map nI) (s.map nI) && PyData.eqvAll (rs.map tI) (ss.map tI)) = _
    rw [eqv_ints, eqv_rows rs ss]
    by_cases e : r = s
    · subst e; simp
    · simp [e]
theorem eqv_rd (A B : Rd) : PyData.eqv (tR A) (tR B) = decide (A = B) := by
  show (((A.b : Int) == (B.b : Int)) && (PyData.eqvAll (A.mv.map tI) (B.mv.map tI) && (PyData.eqvAll (A.sh.map nI) (B.sh.map nI) && true))) = _
  rw [eqv_rows, eqv_ints]
  obtain ⟨a1, a2, a3⟩ := A
  obtain ⟨b1, b2, b3⟩ := B
  by_cases e1 : a1 = b1
  · by_cases e2 : a2 = b2
    · by_cases e3 : a3 = b3
      · subst e1 e2 e3; simp
      · simp [e3]
    · simp [e2]
  · have : (((⟨a1, a2, a3⟩ : Rd).b : Int) == ((⟨b1, b2, b3⟩ : Rd).b : Int)) = false := beq_eq_false_iff_ne.mpr (by show (a1 : Int) ≠ (b1 : Int); omega)
    rw [this]; simp [e1]
end K63
/-! K63Work15: what the law asks of two readers. -/
namespace K63
open PySem PySem.Spec PyProof.Rows L2 RZ
structure Told (R S : Rd) : Prop where
  zr : R.Zero
  zs : S.Zero
  b4 : R.b ≤ 4
  b : R.b = S.b
  n1 : R.mv.length ≤ 7
  n2 : S.mv.length ≤ 7
  lr : ∀ x ∈ R.sh, x < 30
  ls : ∀ x ∈ S.sh, x < 30
def pTold (ds : List PyData) (r : PyData) : Prop := ∃ R S : Rd, ds = [tR R, tR S] ∧ Told R S ∧ r = .bool true
theorem leastL_small {R : Rd} (ok : R.Ok) : (leastL R).mv.length ≤ R.mv.length ∧ ∀ x ∈ (leastL R).sh, x ∈ R.sh := by
  refine ⟨?_, fun x hx => ?_⟩
  · have h1 : (leastL R).mv.length = ((leastLM R).ord (keptL R).length).length := trim_len
    have h2 := ok.doneL.short
    have h3 : (keptL R).length ≤ R.o.length := Nat.le_trans (uniq_len _) (by simp)
    have h4 : R.o.length ≤ R.mv.length := ok.done.short
    omega
  · obtain ⟨p, hp, rfl⟩ := List.mem_map.mp (show x ∈ ((leastLM R).ord (keptL R).length).map R.show from hx)
    exact getD_mem (by rw [ok.shl]; exact ok.o_lt p (kept_o (ok.ordL p hp)).1)
section
variable {R S : Rd}
theorem mul49 {a b : Nat} (h1 : a ≤ 7) (h2 : b ≤ 7) : a * b ≤ 49 := Nat.mul_le_mul h1 h2
theorem Told.two (t : Told R S) : Two R S := ⟨t.zr, t.zs, ⟨t.b4, by have := t.n1; omega, fun x hx => by have := t.lr x hx; omega⟩, ⟨by rw [← t.b]; exact t.b4, by have := t.n2; omega, fun x hx => by have := t.ls x hx; omega⟩, t.b, Nat.le_trans (mul49 t.n1 t.n2) (by decide), t.lr, t.ls⟩
theorem Told.flip (t : Told R S) : Told S R := ⟨t.zs, t.zr, by rw [← t.b]; exact t.b4, t.b.symm, t.n2, t.n1, t.ls, t.lr⟩
theorem Told.own (t : Told R S) : Told R (leastL R) := by
  obtain ⟨h1, h2⟩ := leastL_small t.zr.toOk
  exact ⟨t.zr, leastL_zero t.zr, t.b4, rfl, t.n1, Nat.le_trans h1 t.n1, t.lr, fun x hx => t.lr x (h2 x hx)⟩
theorem Told.small (t : Told R S) {n : Nat} (e : partRd R S = some n) : n < 2 ^ 98 := by
  have h := part_small t.zr.toOk t.zs.toOk t.b e
  have h1 : R.b ^ (R.mv.length * S.mv.length) ≤ 4 ^ 49 := Nat.le_trans (Nat.pow_le_pow_left t.b4 _) (Nat.pow_le_pow_right (by decide) (mul49 t.n1 t.n2))
  have h2 : (4 : Nat) ^ 49 = 2 ^ 98 := by decide +kernel
  omega
theorem Told.shPart (t : Told R S) : Sh (optD (partRd R S)) 9000 3 := by
  cases e : partRd R S with
  | none => exact sh_none.up (by decide) (by decide)
  | some n => exact (sh_int (w := 98) (t.small e) (by decide) (by decide)).up (by decide) (by decide)
theorem Told.shLeast (t : Told R S) : Sh (tR (leastL R)) 9000 3 := by
  have ok := t.zr.toOk
  obtain ⟨h1, h2⟩ := leastL_small ok
  exact sh_rd (leastL_ok ok) t.b4 (by have := t.n1; omega) fun x hx => by have := t.lr x (h2 x hx); omega
theorem Told.shBoth (t : Told R S) : Sh (tR (leastL (bothRd R S))) 9000 3 := by
  have ok := both_ok t.zr.toOk t.zs.toOk t.b
  have sm := small_both t.two
  obtain ⟨h1, h2⟩ := leastL_small ok
  exact sh_rd (leastL_ok ok) t.b4 (Nat.le_trans h1 sm.n) fun x hx => sm.s x (h2 x hx)
theorem Told.shDue (t : Told R S) : Sh (.list [tR (leastL R), tR (leastL S), optD (partRd R S), tR (leastL (bothRd R S))]) 36004 4 :=
  ShAll.lst (m := 4) (W := 9000) (k := 3) (shAll_cons t.shLeast (shAll_cons t.flip.shLeast (shAll_cons t.shPart (shAll_cons t.shBoth shAll_nil)))) (by simp)
variable {P : Program} {w : World} {K : PySem.W.Frag} {mg : Str → Option Value} {base : Heap} {H H' : Hp} {σ : L2.St}
abbrev s_law_are_told : Stmt := topS 39
theorem sc_law_are_told : FnScope ["_law_one", "_law_other", "_law_due", "_law_told"] ["_law_one", "_law_other"] (defScope s_law_are_told) := ⟨rfl, rfl, rfl, by decide +kernel, rfl, by decide +kernel, by decide +kernel⟩
-- 0 _law_one, 1 _law_other, 2 _law_due, 3 _law_told
theorem ok_law_are_told (B : Bn mg) (c_law_least : Cal P w K mg base "_law_least" 2 ["_law_reader_here"] [] (spD K pLeastL)) (c_law_parting : Cal P w K mg base "_law_parting" 1 ["_law_one", "_law_other"] [] (spD K pPart)) (c_law_both : Cal P w K mg base "_law_both" 1 ["_law_one", "_law_other"] [] (spD K pBothL))
    (c_least_reader : Cal P w K mg base "least_reader" 7 ["reader"] [] (spD K pLeastR)) (c_parting_number : Cal P w K mg base "parting_number" 8 ["reader", "other"] [] (spD K pPart)) (c_reader_both : Cal P w K mg base "reader_both" 8 ["reader", "other"] [] (spD K pBoth))
    (c_number_read : Cal P w K mg base "number_read" 7 ["reader", "number"] [] (spD K pNumRd)) {f : Addr} {fd : FuncData} (F : Fun K "_law_are_told" "_law_are_told" s_law_are_told f fd) : FnG P w K mg base 9 f fd ["_law_one", "_law_other"] (spD K pTold) := by
  refine Fun.okG F sc_law_are_told (fun vs H Q E h => spD_len (n := 2) (fun ds r p => by obtain ⟨R, S, rfl, _⟩ := p; rfl) h) (fun cdv A outer s H vs Q E hg hr h => ?_)
  obtain ⟨ds, r, hd, ⟨R, S, rfl, t, rfl⟩, kk⟩ := h
  obtain ⟨v, u, rfl, hv, hu⟩ := hd.inv2
  refine ⟨_, (pss_cons (ps_set (i := 2) sc_law_are_told.nd rfl (Or.inl rfl) (pe_lst (pa_cons (pe_callC c_law_least (hr.mono (by decide)) (by rfl) (pa_cons (pv 0) pa_nil)) (pa_cons (pe_callC c_law_least (hr.mono (by decide)) (by rfl) (pa_cons (pv 1) pa_nil)) (pa_cons (pe_callC c_law_parting (hr.mono (by decide)) (by rfl) (pa_cons (pv 0) (pa_cons (pv 1) pa_nil))) (pa_cons (pe_callC c_law_least (hr.mono (by decide)) (by rfl) (pa_cons (pe_callC c_law_both (hr.mono (by decide)) (by rfl) (pa_cons (pv 0) (pa_cons (pv 1) pa_nil))) pa_nil)) pa_nil))))))
      (pss_cons (ps_set (i := 3) sc_law_are_told.nd rfl (Or.inl rfl) (pe_lst (pa_cons (pe_callC c_least_reader (hr.mono (by decide)) (by rfl) (pa_cons (pv 0) pa_nil)) (pa_cons (pe_callC c_least_reader (hr.mono (by decide)) (by rfl) (pa_cons (pv 1) pa_nil)) (pa_cons (pe_callC c_parting_number (hr.mono (by decide)) (by rfl) (pa_cons (pv 0) (pa_cons (pv 1) pa_nil))) (pa_cons (pe_callC c_reader_both (hr.mono (by decide)) (by rfl) (pa_cons (pv 0) (pa_cons (pv 1) pa_nil))) pa_nil))))))
      (pss_cons (ps_if (PW.pt (pw_or (pt_cmpR op_ne (pe_callB (k_repr K hg hr) (by rfl) B.repr boot_repr (pa_cons (pv 3) pa_nil)) (pe_callB (k_repr K hg hr) (by rfl) B.repr boot_repr (pa_cons (pv 2) pa_nil)) (nomark _)) (pw_or1 (pt_cmpR op_ne (pe_cmpR ob_isN (pe_ix (k_ixL K) (pv 2) pe_int (fun _ _ => rfl)) pe_non (nomark _)) (pe_cmpR (k_eqD K hr.units) (pe_ix (k_ixL K) (pv 2) pe_int (fun _ _ => rfl)) (pe_ix (k_ixL K) (pv 2) pe_int (fun _ _ => rfl)) (nomark _)) (nomark _))))) (pss_one (ps_ret pe_bl)) pss_nil)
      (pss_cons (ps_if (PW.pt (pw_and (pt_cmpR ob_notN (pe_ix (k_ixL K) (pv 2) pe_int (fun _ _ => rfl)) pe_non (nomark _)) (pw_and1 (pt_cmpR op_eq (pe_callC c_number_read (hr.mono (by decide)) (by rfl) (pa_cons (pv 0) (pa_cons (pe_ix (k_ixL K) (pv 2) pe_int (fun _ _ => rfl)) pa_nil))) (pe_callC c_number_read (hr.mono (by decide)) (by rfl) (pa_cons (pv 1) (pa_cons (pe_ix (k_ixL K) (pv 2) pe_int (fun _ _ => rfl)) pa_nil))) (nomark _))))) (pss_one (ps_ret pe_bl)) pss_nil)
      (pss_one (ps_ret (pe_and (pe_cmpR op_eq (pe_callB (k_repr K hg hr) (by rfl) B.repr boot_repr (pa_cons (pe_callC c_parting_number (hr.mono (by decide)) (by rfl) (pa_cons (pv 1) (pa_cons (pv 0) pa_nil))) pa_nil)) (pe_callB (k_repr K hg hr) (by rfl) B.repr boot_repr (pa_cons (pe_ix (k_ixL K) (pv 2) pe_int (fun _ _ => rfl)) pa_nil)) (nomark _)) (pe_one (pe_cmpR ob_isN (pe_callC c_parting_number (hr.mono (by decide)) (by rfl) (pa_cons (pv 0) (pa_cons (pe_ix (k_ixL K) (pv 2) pe_int (fun _ _ => rfl)) pa_nil))) pe_non (nomark _)))))))))), ?_⟩
  have ok := t.zr.toOk
  have ok' := t.zs.toOk
  have tw := t.two
  have okB := both_ok ok ok' t.b
  have oneW : ∀ {σ : L2.St} {H1 : Hp}, σ[0]? = some (some v) → Same H H1 → EvD K (tVar 0) σ H1 (tR R) := fun h e => ed_var h (hv.to e)
  have othW : ∀ {σ : L2.St} {H1 : Hp}, σ[1]? = some (some u) → Same H H1 → EvD K (tVar 1) σ H1 (tR S) := fun h e => ed_var h (hu.to e)
  refine q_L (K := K) (ds := [tR (leastL R), tR (leastL S), optD (partRd R S), tR (leastL (bothRd R S))]) (el_lst (ea_cons (ed_call0 (ea_one (oneW rfl (Same.refl _))) ⟨R, rfl, ok, tw.sr, rfl⟩) (ea_cons (ed_call0 (ea_one (othW rfl (Same.refl _))) ⟨S, rfl, ok', tw.ss, rfl⟩)
    (ea_cons (ed_call0 (ea_cons (oneW rfl (Same.refl _)) (ea_one (othW rfl (Same.refl _)))) ⟨R, S, rfl, tw, rfl⟩)
      (ea_one (ed_call0 (ea_one (ed_call0 (ea_cons (oneW rfl (Same.refl _)) (ea_one (othW rfl (Same.refl _)))) ⟨R, S, rfl, tw, rfl⟩)) ⟨bothRd R S, rfl, okB, small_both tw, rfl⟩))))) (Nat.le_of_ble_eq_true rfl)) fun p vs1 H1 hp e1 h1 hd1 => ?_
  have hD1 : Ls K H1 p _ := ⟨vs1, h1, hd1⟩
  refine q_L (K := K) (ds := [tR (leastL R), tR (leastL S), optD (partRd R S), tR (leastL (bothRd R S))]) (el_lst (ea_cons (ed_call0 (ea_one (oneW rfl e1)) ⟨R, rfl, t.zr, tw.sr, rfl⟩) (ea_cons (ed_call0 (ea_one (othW rfl e1)) ⟨S, rfl, t.zs, tw.ss, rfl⟩)
    (ea_cons (ed_call0 (ea_cons (oneW rfl e1) (ea_one (othW rfl e1))) ⟨R, S, rfl, tw, rfl⟩)
      (ea_one (ed_call0 (ea_cons (oneW rfl e1) (ea_one (othW rfl e1))) ⟨R, S, rfl, tw, rfl⟩))))) (Nat.le_of_ble_eq_true rfl)) fun q vs2 H2 hq e2 h2 hd2 => ?_
  have hT2 : Ls K H2 q _ := ⟨vs2, h2, hd2⟩
  have hD2 := hD1.to e2
  have e02 := e1.trans e2
  have due2 : ∀ {σ : L2.St} {H3 : Hp}, σ[2]? = some (some (.ref p)) → Same H2 H3 → EvD K (tOp (rIxL K) (tVar 2) (tC (.int 2))) σ H3 (optD (partRd R S)) := fun h e => ed_ixL (k := 2) (vv_var h) (hD2.to e) ed_int rfl
  have hpn : nonD (optD (partRd R S)) = decide (leastL R = leastL S) := by
    have := part_least ok ok' t.b
    cases e : partRd R S with
    | none => rw [decide_eq_true (this.mp e)]; rfl
    | some n => rw [decide_eq_false (fun z => by rw [this.mpr z] at e; cases e)]; rfl
  refine q_skip (et_is (et_or (a := false) (b := false) (et_test (K := K) (ed_neS (ed_reprL (vv_var rfl) hT2 t.shDue (by decide) (by decide)) (ed_reprL (vv_var rfl) hD2 t.shDue (by decide) (by decide))))
    fun _ => et_test (K := K) (ed_neB (ed_isN (due2 rfl (Same.refl _))) (ed_eqD (ed_ixL (k := 0) (vv_var rfl) hD2 ed_int rfl) (ed_ixL (k := 1) (vv_var rfl) hD2 ed_int rfl) t.shLeast t.flip.shLeast (by decide) (by decide)) (by rw [eqv_rd]; exact hpn))) rfl) fun H3 e3 => ?_
  have e03 := e02.trans e3
  refine q_skip ?_ fun H4 e4 => ?_
  · cases e : partRd R S with
    | none =>
      have hd := due2 (σ := [some v, some u, some (.ref p), some (.ref q)]) rfl e3
      rw [e] at hd
      exact et_is (et_and (a := false) (b := false) (et_test (K := K) (ed_notN hd)) fun z => nomatch z) rfl
    | some n =>
      have hd : ∀ H3, Same H2 H3 → EvD K (tOp (rIxL K) (tVar 2) (tC (.int 2))) [some v, some u, some (.ref p), some (.ref q)] H3 (nI n) := fun H3 e3 => by
        have := due2 (σ := [some v, some u, some (.ref p), some (.ref q)]) rfl e3
        rw [e] at this; exact this
      have hlt : n < 2 ^ 1000 := Nat.lt_of_lt_of_le (t.small e) (Nat.pow_le_pow_right (by decide) (by decide))
      exact et_is (et_and (a := true) (b := false) (et_test (K := K) (ed_notN (hd H3 e3))) fun _ => et_test (K := K) ((ed_eqN (ed_call0 (ea_cons (oneW rfl e03) (ea_one (hd H3 e3))) ⟨R, n, rfl, t.zr, tw.sr, hlt, rfl⟩) (ed_call0 (ea_cons (othW rfl e03) (ea_one (hd H3 e3))) ⟨S, n, rfl, t.zs, tw.ss, hlt, rfl⟩)).is (bool_false (part_some t.zr t.zs t.b e)))) rfl
  · have e04 := e03.trans e4
    have e24 := e3.trans e4
    have tf := t.flip
    have to := t.own
    refine q_ret' (K := K) (ed_and1 (ed_eqS (ed_repr (d := optD (partRd R S)) ((ed_call0 (ea_cons (othW rfl e04) (ea_one (oneW rfl e04))) ⟨S, R, rfl, tf.two, rfl⟩).is (by rw [part_comm ok ok' t.b])) t.shPart (by decide) (by decide)) (ed_repr (due2 rfl e24) t.shPart (by decide) (by decide)))
      ((ed_isN (d := .none) ((ed_call0 (ea_cons (oneW rfl e04) (ea_one (ed_ixL (k := 0) (vv_var rfl) (hD2.to e24) ed_int rfl))) ⟨R, leastL R, rfl, to.two, rfl⟩).is (by rw [part_own ok]; rfl))).is rfl)) fun x H5 e5 hx => kk x H5 (e04.trans e5) hx
end
end K63
/-! K63Work16: the law. -/
namespace K63
open PySem PySem.Spec PyProof.Rows L2 RZ
def spLaw (K : PySem.W.Frag) : Sp := fun vs H Q _ => ∃ (a : Addr) (ns : List Int), vs = [.ref a] ∧ SqL K H a (ns.map V.int) ∧ ∀ H1, Q (.bl true) H1
section
variable {P : Program} {w : World} {K : PySem.W.Frag} {mg : Str → Option Value} {base : Heap} {H H' : Hp} {σ : L2.St} {ta tb tc td : TE} {D : Ends} {tz : TS} {i n most bw bv kw kv : Nat} {p c : Addr} {cs : List Int} {E : XK}
theorem q_reader (ha : ∀ H1, EvV ta σ H1 (.ref p)) (hb : ∀ H1, EvD K tb σ H1 (nI most)) (hw : EvF K tc σ H p c cs 1 fun d => ∃ x, x < bw ∧ d = nI (kw + x)) (hv : EvF K td σ H p c cs 1 fun d => ∃ x, x < bv ∧ d = nI (kv + x)) (hF : Feed H p c cs n) (hn : n ≤ 700000)
    (h0 : 0 < most) (h1 : most ≤ 6) (w1 : 2 ≤ kw) (w2 : kw + bw ≤ 5) (v1 : 0 < kv) (v2 : kv + bv ≤ 4)
    (k : ∀ R v H1 m, Feed H1 p c cs m → m ≤ n + 102 → R.Zero → R.b ≤ 4 → R.mv.length ≤ 6 → (∀ x ∈ R.sh, x < 3) → Di K H1 v (tR R) → tz D (σ.set i (some v)) H1) :
    tSeq (tAsg (tCall (spReader K) [] E (tCons ta (tCons tb (tCons tc (tCons td tNil))))) (gName i)) tz D σ H := ha H H (Same.refl _) _ fun H1 e1 => hb H1 H1 (Same.refl _) _ fun u H2 e2 hu => by
  have e := e1.trans e2
  refine hw H2 n (.of e) (hF.to e) (by omega) _ fun v3 H3 n3 d3 b3 f3 x3 y3 hv3 ho3 => ?_
  obtain ⟨x, hx, rfl⟩ := ho3
  refine hv H3 n3 ((But.of e).trans b3) f3 (by omega) _ fun v4 H4 n4 d4 b4 f4 x4 y4 hv4 ho4 => ?_
  obtain ⟨y, hy, rfl⟩ := ho4
  refine ⟨p, c, cs, n4, most, kw + x, kv + y, by rw [hu.inv_int, hv3.inv_int, hv4.inv_int]; rfl, f4, h0, h1, by omega, by omega, by omega, by omega, by omega, fun R v H5 m b5 f5 xm ym zR bR nR sR dR => ?_⟩
  exact k R v H5 m f5 (by omega) zR (by omega) (by omega) (fun z hz => by have := sR z hz; omega) dR
abbrev s_law : Stmt := topS 40
theorem sc_law : FnScope ["_law_script", "_law_feed_here", "_law_lap", "_law_one"] ["_law_script"] (defScope s_law) := ⟨rfl, rfl, rfl, by decide +kernel, rfl, by decide +kernel, by decide +kernel⟩
-- 0 _law_script, 1 _law_feed_here, 2 _law_lap, 3 _law_one
theorem ok_law (B : Bn mg) (c_law_feed : Cal P w K mg base "_law_feed" 1 ["_law_script"] [] (spFeed K)) (c_law_draw : Cal P w K mg base "_law_draw" 1 ["_law_feed_here", "_law_bound"] [] spDraw) (c_law_reader : Cal P w K mg base "_law_reader" 2 ["_law_feed_here", "_law_most", "_law_wide", "_law_values"] [] (spReader K))
    (c_law_near : Cal P w K mg base "_law_near" 3 ["_law_feed_here", "_law_reader_here"] [] (spNear K)) (c_law_are_told : CalG P w K mg base "_law_are_told" 9 ["_law_one", "_law_other"] (spD K pTold))
    {f : Addr} {fd : FuncData} (F : Fun K "law" "law" s_law f fd) : FnG P w K mg base 10 f fd ["_law_script"] (spLaw K) := by
  refine Fun.okG F sc_law (fun vs H Q E h => by obtain ⟨a, ns, rfl, _⟩ := h; rfl) (fun cdv A outer s H vs Q E hg hr h => ?_)
  obtain ⟨a, ns, rfl, hs, kk⟩ := h
  refine ⟨_, (pss_cons (ps_set (i := 1) sc_law.nd rfl (Or.inl rfl) (pe_callC c_law_feed (hr.mono (by decide)) (by rfl) (pa_cons (pv 0) pa_nil)))
      (pss_cons (ps_for PassesOwn.never rfl (pi_range1 (by rfl) B.range (pa_cons pe_int pa_nil)) (pg_name (i := 2) sc_law.nd rfl (Or.inl rfl))
      (pss_cons (ps_set (i := 3) sc_law.nd rfl (Or.inl rfl) (pe_callC c_law_reader (hr.mono (by decide)) (by rfl) (pa_cons (pv 1) (pa_cons pe_int (pa_cons (pe_op op_add pe_int (pe_callC c_law_draw (hr.mono (by decide)) (by rfl) (pa_cons (pv 1) (pa_cons pe_int pa_nil)))) (pa_cons (pe_op op_add pe_int (pe_callC c_law_draw (hr.mono (by decide)) (by rfl) (pa_cons (pv 1) (pa_cons pe_int pa_nil)))) pa_nil))))))
      (pss_one (ps_if (pt_not (pt_val (pe_callG c_law_are_told hg (hr.mono (by decide)) (by rfl) (pa_cons (pv 3) (pa_cons (pe_callC c_law_near (hr.mono (by decide)) (by rfl) (pa_cons (pv 1) (pa_cons (pv 3) pa_nil))) pa_nil))))) (pss_one (ps_ret pe_bl)) pss_nil))))
      (pss_one (ps_ret pe_bl)))), ?_⟩
  refine ⟨.ref a, rfl, a, ns, rfl, hs, fun p c cs H1 hp e1 hF => ?_⟩
  refine q_rng (K := K) (m := 3) (ea_one ed_int) (by decide) (fun lap σ' H' => ∃ y2 y3 m, σ' = [some (.ref a), some (.ref p), y2, y3] ∧ Feed H' p c cs m ∧ m ≤ lap * 1000) (fun H2 e2 => ⟨none, none, 0, rfl, hF.to e2, by omega⟩) (fun lap σ' H2 hlap hP => ?_) fun σ' H2 hP => ?_
  · obtain ⟨y2, y3, m, rfl, f2, hm⟩ := hP
    refine q_reader (K := K) (most := 6) (kw := 2) (bw := 3) (kv := 1) (bv := 3) (fun _ => vv_var rfl) (fun _ => ed_int) (ef_plus (k := 2) (ef_draw (b := 3) (fun _ => vv_var rfl) (fun _ => ed_int) (by decide) (by decide)) (fun _ => ed_int))
      (ef_plus (k := 1) (ef_draw (b := 3) (fun _ => vv_var rfl) (fun _ => ed_int) (by decide) (by decide)) (fun _ => ed_int)) f2 (by omega) (by decide) (by decide) (by decide) (by decide) (by decide) (by decide) fun R v H3 m3 f3 hm3 zR bR nR sR dR => ?_
    refine ⟨v, rfl, .ref p, rfl, v, rfl, p, c, cs, m3, v, R, rfl, f3, dR, zR, bR, nR, fun x hx => by have := sR x hx; omega, by omega, fun S v' H4 m4 b4 f4 x4 y4 zS bS nS sS dS => ?_⟩
    refine ⟨[tR R, tR S], .bool true, .cons (dR.tx (b4.tx f3.noTup)) (.one dS), ⟨R, S, rfl, ⟨zR, zS, bR, bS.symm, by omega, nS, fun x hx => by have := sR x hx; omega, fun x hx => by have := sS x hx; omega⟩, rfl⟩, fun z H5 e5 hz => ?_⟩
    rw [hz.inv_bl]
    exact ⟨true, rfl, _, _, m4, rfl, f4.to e5, by omega⟩
  · exact kk H2
end
end K63
/-! K63End: what the top has written; all calls; the law's own head. -/
namespace K63
open PySem PySem.Spec PyProof.Rows L2 RZ
/-- a def without defaults, as it stands -/
inductive Df (K : PySem.W.Frag) (x : Str) (st : Stmt) : Prop
  | mk {f : Addr} {oc kV dc pm cd ct : Value} {od an : Option Addr} {sl : Array (Option Value)} (a : PySem.W.nsIn K mainGlobals x = some (some (.ref f))) (l : K.lookup f = some ⟨oc, od, .func (PySem.W.fnOf x x (defArgs st) (defBody st) (defScope st) .none kV dc pm an cd ct), sl⟩)
      (c : PySem.W.codeIn K cd x = true) (k : PySem.W.keepIn K (.ref f) = true) : Df K x st
/-- a def with one default -/
inductive Dd (K : PySem.W.Frag) (x : Str) (st : Stmt) (dv : V) : Prop
  | mk {f T : Addr} {oc kV dc pm cd ct tc u : Value} {od an td : Option Addr} {sl tl : Array (Option Value)} {n : Nat} (a : PySem.W.nsIn K mainGlobals x = some (some (.ref f))) (l : K.lookup f = some ⟨oc, od, .func (PySem.W.fnOf x x (defArgs st) (defBody st) (defScope st) (.ref T) kV dc pm an cd ct), sl⟩)
      (c : PySem.W.codeIn K cd x = true) (k : PySem.W.keepIn K (.ref f) = true) (t : K.lookup T = some ⟨tc, td, .seq #[u] n, tl⟩) (r : RelV dv u) : Dd K x st dv
section
variable {P : Program} {w : World} {K : PySem.W.Frag} {mg : Str → Option Value} {base h : Heap} {x : Str} {st : Stmt}
theorem Df.get (X : K.In h) (G : h.Ns mainGlobals mg) (d : Df K x st) : ∃ f fd, Fun K x x st f fd ∧ mg x = some (.ref f) := by
  cases d with
  | mk a l c k => exact ⟨_, _, ⟨⟨_, _, _, _, _, _, _, _, _, rfl, l, c⟩, k⟩, PySem.W.mg_of X G a⟩
theorem Dd.get {dv : V} (X : K.In h) (G : h.Ns mainGlobals mg) (d : Dd K x st dv) : ∃ f fd, FunD K x x (defArgs st) (defBody st) (defScope st) [dv] [] f fd ∧ mg x = some (.ref f) := by
  cases d with
  | mk a l c k t r => exact ⟨_, _, ⟨⟨_, _, _, _, _, _, _, _, _, _, rfl, l, c, .inr ⟨by simp, _, _, [_], _, rfl, t, rfl, .cons r .nil⟩, .inl rfl⟩, k⟩, PySem.W.mg_of X G a⟩
theorem cal_of {k : Nat} {ps : List Str} {sp : Sp} {f : Addr} {fd : FuncData} (F : Fun K x x st f fd) (m : mg x = some (.ref f)) (ok : FnOk P w K mg base CX0 k f fd ps sp) (b : Binds K fd ps []) : Cal P w K mg base x k ps [] sp := ⟨⟨f, fd, [], ok, m, F.kp, b, .nil⟩⟩
/-- all that the top has written, as far as the law asks -/
structure Tops (K : PySem.W.Frag) : Prop where
  c_is_integer : Df K "is_integer" s_is_integer
  c_is_number : Df K "is_number" s_is_number
  c_is_index : Df K "is_index" s_is_index
  c_is_full_tuple : Df K "is_full_tuple" s_is_full_tuple
  c_is_tuple_of : Df K "is_tuple_of" s_is_tuple_of
  c_are_indexes : Df K "are_indexes" s_are_indexes
  c_is_base : Df K "is_base" s_is_base
  c_is_reader : Df K "is_reader" s_is_reader
  c_digits_in : Df K "digits_in" s_digits_in
  c_shown_by : Df K "shown_by" s_shown_by
  c_made_of : Df K "made_of" s_made_of
  c_trimmed : Df K "trimmed" s_trimmed
  c_named_as_met : Df K "named_as_met" s_named_as_met
  c_least_of : Df K "least_of" s_least_of
  c_number_read : Df K "number_read" s_number_read
  c_least_reader : Df K "least_reader" s_least_reader
  c_want_two : Df K "want_two" s_want_two
  c_parting_number : Df K "parting_number" s_parting_number
  c_reader_both : Df K "reader_both" s_reader_both
  c_law_feed : Df K "_law_feed" s_law_feed
  c_law_draw : Df K "_law_draw" s_law_draw
  c_law_reader : Df K "_law_reader" s_law_reader
  c_law_met : Df K "_law_met" s_law_met
  c_law_least : Df K "_law_least" s_law_least
  c_law_near : Df K "_law_near" s_law_near
  c_law_parting : Df K "_law_parting" s_law_parting
  c_law_both : Df K "_law_both" s_law_both
  c_law_are_told : Df K "_law_are_told" s_law_are_told
  c_law : Df K "law" s_law
  c_want : Dd K "want" s_want (.int (-1))
  c_want_reader : Dd K "want_reader" s_want_reader (.str "reader")
  z_len : PySem.W.nsIn K mainGlobals "len" = some none
  z_tuple : PySem.W.nsIn K mainGlobals "tuple" = some none
  z_int : PySem.W.nsIn K mainGlobals "int" = some none
  z_bool : PySem.W.nsIn K mainGlobals "bool" = some none
  z_list : PySem.W.nsIn K mainGlobals "list" = some none
  z_dict : PySem.W.nsIn K mainGlobals "dict" = some none
  z_isinstance : PySem.W.nsIn K mainGlobals "isinstance" = some none
  z_all : PySem.W.nsIn K mainGlobals "all" = some none
  z_max : PySem.W.nsIn K mainGlobals "max" = some none
  z_zip : PySem.W.nsIn K mainGlobals "zip" = some none
  z_range : PySem.W.nsIn K mainGlobals "range" = some none
  z_repr : PySem.W.nsIn K mainGlobals "repr" = some none
theorem Tops.bn (X : K.In h) (G : h.Ns mainGlobals mg) (t : Tops K) : Bn mg := ⟨PySem.W.mg_none_of X G t.z_len, PySem.W.mg_none_of X G t.z_tuple, PySem.W.mg_none_of X G t.z_int, PySem.W.mg_none_of X G t.z_bool, PySem.W.mg_none_of X G t.z_list, PySem.W.mg_none_of X G t.z_dict, PySem.W.mg_none_of X G t.z_isinstance, PySem.W.mg_none_of X G t.z_all, PySem.W.mg_none_of X G t.z_max, PySem.W.mg_none_of X G t.z_zip, PySem.W.mg_none_of X G t.z_range, PySem.W.mg_none_of X G t.z_repr⟩
theorem law_fn (X : K.In h) (G : h.Ns mainGlobals mg) (t : Tops K) {fa : Addr} (hfa : mg "law" = some (.ref fa)) : ∃ fd : FuncData, (∀ (s : Shared) (v : Value), BindsTo s fd ⟨[v], []⟩ [("_law_script", v)]) ∧
    ∀ base : Heap, K.In base → base.Ns mainGlobals mg → FnG P w K mg base 10 fa fd ["_law_script"] (spLaw K) := by
  have B := t.bn X G
  obtain ⟨f_c_is_integer, fd_c_is_integer, F_c_is_integer, m_c_is_integer⟩ := t.c_is_integer.get X G
  have b_c_is_integer := F_c_is_integer.binds (ps := ["thing"]) fun _ _ _ _ _ _ us hl => match us, hl with | [_], _ => rfl
  obtain ⟨f_c_is_number, fd_c_is_number, F_c_is_number, m_c_is_number⟩ := t.c_is_number.get X G
  have b_c_is_number := F_c_is_number.binds (ps := ["thing"]) fun _ _ _ _ _ _ us hl => match us, hl with | [_], _ => rfl
  obtain ⟨f_c_is_index, fd_c_is_index, F_c_is_index, m_c_is_index⟩ := t.c_is_index.get X G
  have b_c_is_index := F_c_is_index.binds (ps := ["thing", "many"]) fun _ _ _ _ _ _ us hl => match us, hl with | [_, _], _ => rfl
  obtain ⟨f_c_is_full_tuple, fd_c_is_full_tuple, F_c_is_full_tuple, m_c_is_full_tuple⟩ := t.c_is_full_tuple.get X G
  have b_c_is_full_tuple := F_c_is_full_tuple.binds (ps := ["thing"]) fun _ _ _ _ _ _ us hl => match us, hl with | [_], _ => rfl
  obtain ⟨f_c_is_tuple_of, fd_c_is_tuple_of, F_c_is_tuple_of, m_c_is_tuple_of⟩ := t.c_is_tuple_of.get X G
  have b_c_is_tuple_of := F_c_is_tuple_of.binds (ps := ["thing", "many"]) fun _ _ _ _ _ _ us hl => match us, hl with | [_, _], _ => rfl
  obtain ⟨f_c_are_indexes, fd_c_are_indexes, F_c_are_indexes, m_c_are_indexes⟩ := t.c_are_indexes.get X G
  have b_c_are_indexes := F_c_are_indexes.binds (ps := ["thing", "many"]) fun _ _ _ _ _ _ us hl => match us, hl with | [_, _], _ => rfl
  obtain ⟨f_c_is_base, fd_c_is_base, F_c_is_base, m_c_is_base⟩ := t.c_is_base.get X G
  have b_c_is_base := F_c_is_base.binds (ps := ["thing"]) fun _ _ _ _ _ _ us hl => match us, hl with | [_], _ => rfl
  obtain ⟨f_c_is_reader, fd_c_is_reader, F_c_is_reader, m_c_is_reader⟩ := t.c_is_reader.get X G
  have b_c_is_reader := F_c_is_reader.binds (ps := ["thing"]) fun _ _ _ _ _ _ us hl => match us, hl with | [_], _ => rfl
  obtain ⟨f_c_digits_in, fd_c_digits_in, F_c_digits_in, m_c_digits_in⟩ := t.c_digits_in.get X G
  have b_c_digits_in := F_c_digits_in.binds (ps := ["base", "number"]) fun _ _ _ _ _ _ us hl => match us, hl with | [_, _], _ => rfl
  obtain ⟨f_c_shown_by, fd_c_shown_by, F_c_shown_by, m_c_shown_by⟩ := t.c_shown_by.get X G
  have b_c_shown_by := F_c_shown_by.binds (ps := ["reader", "number"]) fun _ _ _ _ _ _ us hl => match us, hl with | [_, _], _ => rfl
  obtain ⟨f_c_made_of, fd_c_made_of, F_c_made_of, m_c_made_of⟩ := t.c_made_of.get X G
  have b_c_made_of := F_c_made_of.binds (ps := ["base", "rows", "shows"]) fun _ _ _ _ _ _ us hl => match us, hl with | [_, _, _], _ => rfl
  obtain ⟨f_c_trimmed, fd_c_trimmed, F_c_trimmed, m_c_trimmed⟩ := t.c_trimmed.get X G
  have b_c_trimmed := F_c_trimmed.binds (ps := ["reader"]) fun _ _ _ _ _ _ us hl => match us, hl with | [_], _ => rfl
  obtain ⟨f_c_named_as_met, fd_c_named_as_met, F_c_named_as_met, m_c_named_as_met⟩ := t.c_named_as_met.get X G
  have b_c_named_as_met := F_c_named_as_met.binds (ps := ["things"]) fun _ _ _ _ _ _ us hl => match us, hl with | [_], _ => rfl
  obtain ⟨f_c_least_of, fd_c_least_of, F_c_least_of, m_c_least_of⟩ := t.c_least_of.get X G
  have b_c_least_of := F_c_least_of.binds (ps := ["reader"]) fun _ _ _ _ _ _ us hl => match us, hl with | [_], _ => rfl
  obtain ⟨f_c_number_read, fd_c_number_read, F_c_number_read, m_c_number_read⟩ := t.c_number_read.get X G
  have b_c_number_read := F_c_number_read.binds (ps := ["reader", "number"]) fun _ _ _ _ _ _ us hl => match us, hl with | [_, _], _ => rfl
  obtain ⟨f_c_least_reader, fd_c_least_reader, F_c_least_reader, m_c_least_reader⟩ := t.c_least_reader.get X G
  have b_c_least_reader := F_c_least_reader.binds (ps := ["reader"]) fun _ _ _ _ _ _ us hl => match us, hl with | [_], _ => rfl
  obtain ⟨f_c_want_two, fd_c_want_two, F_c_want_two, m_c_want_two⟩ := t.c_want_two.get X G
  have b_c_want_two := F_c_want_two.binds (ps := ["reader", "other"]) fun _ _ _ _ _ _ us hl => match us, hl with | [_, _], _ => rfl
  obtain ⟨f_c_parting_number, fd_c_parting_number, F_c_parting_number, m_c_parting_number⟩ := t.c_parting_number.get X G
  have b_c_parting_number := F_c_parting_number.binds (ps := ["reader", "other"]) fun _ _ _ _ _ _ us hl => match us, hl with | [_, _], _ => rfl
  obtain ⟨f_c_reader_both, fd_c_reader_both, F_c_reader_both, m_c_reader_both⟩ := t.c_reader_both.get X G
  have b_c_reader_both := F_c_reader_both.binds (ps := ["reader", "other"]) fun _ _ _ _ _ _ us hl => match us, hl with | [_, _], _ => rfl
  obtain ⟨f_c_law_feed, fd_c_law_feed, F_c_law_feed, m_c_law_feed⟩ := t.c_law_feed.get X G
  have b_c_law_feed := F_c_law_feed.binds (ps := ["_law_script"]) fun _ _ _ _ _ _ us hl => match us, hl with | [_], _ => rfl
  obtain ⟨f_c_law_draw, fd_c_law_draw, F_c_law_draw, m_c_law_draw⟩ := t.c_law_draw.get X G
  have b_c_law_draw := F_c_law_draw.binds (ps := ["_law_feed_here", "_law_bound"]) fun _ _ _ _ _ _ us hl => match us, hl with | [_, _], _ => rfl
  obtain ⟨f_c_law_reader, fd_c_law_reader, F_c_law_reader, m_c_law_reader⟩ := t.c_law_reader.get X G
  have b_c_law_reader := F_c_law_reader.binds (ps := ["_law_feed_here", "_law_most", "_law_wide", "_law_values"]) fun _ _ _ _ _ _ us hl => match us, hl with | [_, _, _, _], _ => rfl
  obtain ⟨f_c_law_met, fd_c_law_met, F_c_law_met, m_c_law_met⟩ := t.c_law_met.get X G
  have b_c_law_met := F_c_law_met.binds (ps := ["_law_moves", "_law_wide"]) fun _ _ _ _ _ _ us hl => match us, hl with | [_, _], _ => rfl
  obtain ⟨f_c_law_least, fd_c_law_least, F_c_law_least, m_c_law_least⟩ := t.c_law_least.get X G
  have b_c_law_least := F_c_law_least.binds (ps := ["_law_reader_here"]) fun _ _ _ _ _ _ us hl => match us, hl with | [_], _ => rfl
  obtain ⟨f_c_law_near, fd_c_law_near, F_c_law_near, m_c_law_near⟩ := t.c_law_near.get X G
  have b_c_law_near := F_c_law_near.binds (ps := ["_law_feed_here", "_law_reader_here"]) fun _ _ _ _ _ _ us hl => match us, hl with | [_, _], _ => rfl
  obtain ⟨f_c_law_parting, fd_c_law_parting, F_c_law_parting, m_c_law_parting⟩ := t.c_law_parting.get X G
  have b_c_law_parting := F_c_law_parting.binds (ps := ["_law_one", "_law_other"]) fun _ _ _ _ _ _ us hl => match us, hl with | [_, _], _ => rfl
  obtain ⟨f_c_law_both, fd_c_law_both, F_c_law_both, m_c_law_both⟩ := t.c_law_both.get X G
  have b_c_law_both := F_c_law_both.binds (ps := ["_law_one", "_law_other"]) fun _ _ _ _ _ _ us hl => match us, hl with | [_, _], _ => rfl
  obtain ⟨f_c_law_are_told, fd_c_law_are_told, F_c_law_are_told, m_c_law_are_told⟩ := t.c_law_are_told.get X G
  have b_c_law_are_told := F_c_law_are_told.binds (ps := ["_law_one", "_law_other"]) fun _ _ _ _ _ _ us hl => match us, hl with | [_, _], _ => rfl
  obtain ⟨f_c_want, fd_c_want, F_c_want, m_c_want⟩ := t.c_want.get X G
  obtain ⟨f_c_want_reader, fd_c_want_reader, F_c_want_reader, m_c_want_reader⟩ := t.c_want_reader.get X G
  obtain ⟨ds_want, v_want, b_want⟩ := FunD.binds1 (ps := ["holds", "word", "at"]) F_c_want 2 0 (by simp) (by rfl) fun _ _ _ _ _ _ _ us its hl hi => match us, its, hl, hi with | [_, _], [_], _, _ => ⟨_, rfl, rfl⟩
  obtain ⟨ds_rd, v_rd, b_rd⟩ := FunD.binds1 (ps := ["thing", "name"]) F_c_want_reader 1 0 (by simp) (by rfl) fun _ _ _ _ _ _ _ us its hl hi => match us, its, hl, hi with | [_], [_], _, _ => ⟨_, rfl, rfl⟩
  obtain ⟨ds_rdF, v_rdF, b_rdF⟩ := FunD.binds1 (ps := ["thing", "name"]) F_c_want_reader 2 1 (by simp) (by rfl) fun _ _ _ _ _ _ _ us its hl hi => match us, its, hl, hi with | [_, _], [_], _, _ => ⟨_, rfl, rfl⟩
  obtain ⟨f_law, fd_law, F_law, m_law⟩ := t.c_law.get X G
  cases hfa.symm.trans m_law
  refine ⟨fd_law, fun s v => ?_, fun base hb Gb => ?_⟩
  · obtain ⟨oc, od, kV, doc, pm, an, cdv, ct, osl, rfl, _, _⟩ := F_law.ex
    exact .of_eq rfl
  · have c_is_integer : Cal P w K mg base "is_integer" 1 ["thing"] [] (spD K pInt) := cal_of F_c_is_integer m_c_is_integer (ok_is_integer B  F_c_is_integer) b_c_is_integer
    have c_is_number : Cal P w K mg base "is_number" 2 ["thing"] [] (spD K pNum) := cal_of F_c_is_number m_c_is_number (ok_is_number B c_is_integer F_c_is_number) b_c_is_number
    have c_is_index : Cal P w K mg base "is_index" 3 ["thing", "many"] [] (spD K pIdx) := cal_of F_c_is_index m_c_is_index (ok_is_index B c_is_number F_c_is_index) b_c_is_index
    have c_is_full_tuple : Cal P w K mg base "is_full_tuple" 1 ["thing"] [] (spD K pFull) := cal_of F_c_is_full_tuple m_c_is_full_tuple (ok_is_full_tuple B  F_c_is_full_tuple) b_c_is_full_tuple
    have c_is_tuple_of : Cal P w K mg base "is_tuple_of" 1 ["thing", "many"] [] (spD K pTupOf) := cal_of F_c_is_tuple_of m_c_is_tuple_of (ok_is_tuple_of B  F_c_is_tuple_of) b_c_is_tuple_of
    have c_are_indexes : Cal P w K mg base "are_indexes" 4 ["thing", "many"] [] (spD K pIdxs) := cal_of F_c_are_indexes m_c_are_indexes (ok_are_indexes B c_is_index F_c_are_indexes) b_c_are_indexes
    have c_is_base : Cal P w K mg base "is_base" 2 ["thing"] [] (spD K pBase) := cal_of F_c_is_base m_c_is_base (ok_is_base B c_is_integer F_c_is_base) b_c_is_base
    have c_is_reader : Cal P w K mg base "is_reader" 5 ["thing"] [] (spD K pRd) := cal_of F_c_is_reader m_c_is_reader (ok_is_reader B c_is_number c_is_full_tuple c_is_tuple_of c_are_indexes c_is_base F_c_is_reader) b_c_is_reader
    have c_want : Cal P w K mg base "want" 1 ["holds", "word", "at"] [.int (-1)] (spD K pWant) := ⟨⟨f_c_want, fd_c_want, ds_want, ok_want B F_c_want, m_c_want, F_c_want.kp, b_want, v_want⟩⟩
    have c_want_reader : Cal P w K mg base "want_reader" 6 ["thing", "name"] [.str "reader"] (spD K pWantRd) := ⟨⟨f_c_want_reader, fd_c_want_reader, ds_rd, ok_want_reader B c_want c_is_reader F_c_want_reader, m_c_want_reader, F_c_want_reader.kp, b_rd, v_rd⟩⟩
    have c_want_readerF : Cal P w K mg base "want_reader" 6 ["thing", "name"] [] (spD K pWantRd) := ⟨⟨f_c_want_reader, fd_c_want_reader, ds_rdF, ok_want_reader B c_want c_is_reader F_c_want_reader, m_c_want_reader, F_c_want_reader.kp, b_rdF, v_rdF⟩⟩
    have c_digits_in : Cal P w K mg base "digits_in" 1 ["base", "number"] [] (spL K pDigits) := cal_of F_c_digits_in m_c_digits_in (ok_digits_in B  F_c_digits_in) b_c_digits_in
    have c_shown_by : Cal P w K mg base "shown_by" 2 ["reader", "number"] [] (spD K pShown) := cal_of F_c_shown_by m_c_shown_by (ok_shown_by B c_digits_in F_c_shown_by) b_c_shown_by
    have c_made_of : Cal P w K mg base "made_of" 1 ["base", "rows", "shows"] [] (spMade K) := cal_of F_c_made_of m_c_made_of (ok_made_of B  F_c_made_of) b_c_made_of
    have c_trimmed : Cal P w K mg base "trimmed" 2 ["reader"] [] (spD K pTrim) := cal_of F_c_trimmed m_c_trimmed (ok_trimmed B c_made_of F_c_trimmed) b_c_trimmed
    have c_named_as_met : Cal P w K mg base "named_as_met" 1 ["things"] [] (spL K pNamI) := cal_of F_c_named_as_met m_c_named_as_met (ok_namedI B  F_c_named_as_met) b_c_named_as_met
    have c_named_as_metN : Cal P w K mg base "named_as_met" 1 ["things"] [] (spNam K) := cal_of F_c_named_as_met m_c_named_as_met (ok_namedN B  F_c_named_as_met) b_c_named_as_met
    have c_least_of : Cal P w K mg base "least_of" 3 ["reader"] [] (spD K pLeast) := cal_of F_c_least_of m_c_least_of (ok_least_of B c_trimmed c_made_of c_named_as_met c_named_as_metN F_c_least_of) b_c_least_of
    have c_number_read : Cal P w K mg base "number_read" 7 ["reader", "number"] [] (spD K pNumRd) := cal_of F_c_number_read m_c_number_read (ok_number_read B c_want_reader c_want c_is_number c_shown_by F_c_number_read) b_c_number_read
    have c_least_reader : Cal P w K mg base "least_reader" 7 ["reader"] [] (spD K pLeastR) := cal_of F_c_least_reader m_c_least_reader (ok_least_reader B c_want_reader c_least_of F_c_least_reader) b_c_least_reader
    have c_want_two : Cal P w K mg base "want_two" 7 ["reader", "other"] [] (spD K pTwo) := cal_of F_c_want_two m_c_want_two (ok_want_two B c_want_reader c_want_readerF c_want F_c_want_two) b_c_want_two
    have c_parting_number : Cal P w K mg base "parting_number" 8 ["reader", "other"] [] (spD K pPart) := cal_of F_c_parting_number m_c_parting_number (ok_parting_number B c_want_two F_c_parting_number) b_c_parting_number
    have c_reader_both : Cal P w K mg base "reader_both" 8 ["reader", "other"] [] (spD K pBoth) := cal_of F_c_reader_both m_c_reader_both (ok_reader_both B c_want_two c_least_of c_made_of F_c_reader_both) b_c_reader_both
    have c_law_feed : Cal P w K mg base "_law_feed" 1 ["_law_script"] [] (spFeed K) := cal_of F_c_law_feed m_c_law_feed (ok_law_feed B  F_c_law_feed) b_c_law_feed
    have c_law_draw : Cal P w K mg base "_law_draw" 1 ["_law_feed_here", "_law_bound"] [] (spDraw) := cal_of F_c_law_draw m_c_law_draw (ok_law_draw B  F_c_law_draw) b_c_law_draw
    have c_law_reader : Cal P w K mg base "_law_reader" 2 ["_law_feed_here", "_law_most", "_law_wide", "_law_values"] [] (spReader K) := cal_of F_c_law_reader m_c_law_reader (ok_law_reader B c_law_draw F_c_law_reader) b_c_law_reader
    have c_law_met : Cal P w K mg base "_law_met" 1 ["_law_moves", "_law_wide"] [] (spL K pMetT) := cal_of F_c_law_met m_c_law_met (ok_law_metT B  F_c_law_met) b_c_law_met
    have c_law_metD : Cal P w K mg base "_law_met" 1 ["_law_moves", "_law_wide"] [] (spMetD K) := cal_of F_c_law_met m_c_law_met (ok_law_metD B  F_c_law_met) b_c_law_met
    have c_law_least : Cal P w K mg base "_law_least" 2 ["_law_reader_here"] [] (spD K pLeastL) := cal_of F_c_law_least m_c_law_least (ok_law_least B c_law_met c_law_metD F_c_law_least) b_c_law_least
    have c_law_near : Cal P w K mg base "_law_near" 3 ["_law_feed_here", "_law_reader_here"] [] (spNear K) := cal_of F_c_law_near m_c_law_near (ok_law_near B c_law_draw c_law_reader F_c_law_near) b_c_law_near
    have c_law_parting : Cal P w K mg base "_law_parting" 1 ["_law_one", "_law_other"] [] (spD K pPart) := cal_of F_c_law_parting m_c_law_parting (ok_law_parting B  F_c_law_parting) b_c_law_parting
    have c_law_both : Cal P w K mg base "_law_both" 1 ["_law_one", "_law_other"] [] (spD K pBothL) := cal_of F_c_law_both m_c_law_both (ok_law_both B  F_c_law_both) b_c_law_both
    have c_law_are_told : CalG P w K mg base "_law_are_told" 9 ["_law_one", "_law_other"] (spD K pTold) := ⟨⟨f_c_law_are_told, fd_c_law_are_told, ok_law_are_told B c_law_least c_law_parting c_law_both c_least_reader c_parting_number c_reader_both c_number_read F_c_law_are_told, m_c_law_are_told, F_c_law_are_told.kp, b_c_law_are_told⟩⟩
    exact ok_law B c_law_feed c_law_draw c_law_reader c_law_near c_law_are_told F_law
theorem walks {l : PySem.W.OpenLaw} {q : Program} {loose : List Str} {XP : (Str → Option Value) → Heap → Prop} {YP : World → Heap → Prop} {d : DefRec} {K : Params → PySem.W.Frag} (most : l.most = some 63) (name : d.name = "law") (plain : d.params.defaults = [])
    (isIn : ∀ (w : World) (h : Heap), YP w h → (K w.params).In h) (T : ∀ w : World, Tops (K w.params)) : PySem.W.WalkO q loose XP YP l.row.toRowW d [] (fun f vs => PySem.call f vs) :=
  walkG (n := 63) (k := 10) (x := "_law_script") (sp := fun w => spLaw (K w.params)) most (by decide) plain ⟨rfl, by decide, by decide⟩ isIn
    (fun w mg fa h X G m => law_fn X G (T w) (by rw [← name]; exact m)) fun w H a ns seq => ⟨a, ns, rfl, seq, fun _ => rfl⟩
end
end K63
open PySem PySem.W PyProof.Rows
set_option maxRecDepth 100000 in
set_option maxHeartbeats 0 in
theorem PySem.Challenge.cw_ledalong_k63_whole_least_readers_holds : PySem.Challenge.rw_ledalong_k63_whole_least_readers.Holds := by
  w_on; o_law; k_head; (case hw => w_witness2)
  k_fill
  refine K63.walks (l := PySem.Challenge.rw_ledalong_k63_whole_least_readers) rfl rfl rfl (fun w h Y => PySem.W.kIn_of Y) ?F
  case F =>
    intro w
    refine' K63.Tops.mk ?c_is_integer ?c_is_number ?c_is_index ?c_is_full_tuple ?c_is_tuple_of ?c_are_indexes ?c_is_base ?c_is_reader ?c_digits_in ?c_shown_by ?c_made_of ?c_trimmed ?c_named_as_met ?c_least_of ?c_number_read ?c_least_reader ?c_want_two ?c_parting_number ?c_reader_both ?c_law_feed ?c_law_draw ?c_law_reader ?c_law_met ?c_law_least ?c_law_near ?c_law_parting ?c_law_both ?c_law_are_told ?c_law ?c_want ?c_want_reader ?z_len ?z_tuple ?z_int ?z_bool ?z_list ?z_dict ?z_isinstance ?z_all ?z_max ?z_zip ?z_range ?z_repr
    (case c_is_integer => (refine' K63.Df.mk ?a ?l ?c ?k; (case a => k_is); (case l => k_is); (case c => k_is); (case k => k_is)))
    (case c_is_number => (refine' K63.Df.mk ?a ?l ?c ?k; (case a => k_is); (case l => k_is); (case c => k_is); (case k => k_is)))
    (case c_is_index => (refine' K63.Df.mk ?a ?l ?c ?k; (case a => k_is); (case l => k_is); (case c => k_is); (case k => k_is)))
    (case c_is_full_tuple => (refine' K63.Df.mk ?a ?l ?c ?k; (case a => k_is); (case l => k_is); (case c => k_is); (case k => k_is)))
    (case c_is_tuple_of => (refine' K63.Df.mk ?a ?l ?c ?k; (case a => k_is); (case l => k_is); (case c => k_is); (case k => k_is)))
    (case c_are_indexes => (refine' K63.Df.mk ?a ?l ?c ?k; (case a => k_is); (case l => k_is); (case c => k_is); (case k => k_is)))
    (case c_is_base => (refine' K63.Df.mk ?a ?l ?c ?k; (case a => k_is); (case l => k_is); (case c => k_is); (case k => k_is)))
    (case c_is_reader => (refine' K63.Df.mk ?a ?l ?c ?k; (case a => k_is); (case l => k_is); (case c => k_is); (case k => k_is)))
    (case c_digits_in => (refine' K63.Df.mk ?a ?l ?c ?k; (case a => k_is); (case l => k_is); (case c => k_is); (case k => k_is)))
    (case c_shown_by => (refine' K63.Df.mk ?a ?l ?c ?k; (case a => k_is); (case l => k_is); (case c => k_is); (case k => k_is)))
    (case c_made_of => (refine' K63.Df.mk ?a ?l ?c ?k; (case a => k_is); (case l => k_is); (case c => k_is); (case k => k_is)))
    (case c_trimmed => (refine' K63.Df.mk ?a ?l ?c ?k; (case a => k_is); (case l => k_is); (case c => k_is); (case k => k_is)))
    (case c_named_as_met => (refine' K63.Df.mk ?a ?l ?c ?k; (case a => k_is); (case l => k_is); (case c => k_is); (case k => k_is)))
    (case c_least_of => (refine' K63.Df.mk ?a ?l ?c ?k; (case a => k_is); (case l => k_is); (case c => k_is); (case k => k_is)))
    (case c_number_read => (refine' K63.Df.mk ?a ?l ?c ?k; (case a => k_is); (case l => k_is); (case c => k_is); (case k => k_is)))
    (case c_least_reader => (refine' K63.Df.mk ?a ?l ?c ?k; (case a => k_is); (case l => k_is); (case c => k_is); (case k => k_is)))
    (case c_want_two => (refine' K63.Df.mk ?a ?l ?c ?k; (case a => k_is); (case l => k_is); (case c => k_is); (case k => k_is)))
    (case c_parting_number => (refine' K63.Df.mk ?a ?l ?c ?k; (case a => k_is); (case l => k_is); (case c => k_is); (case k => k_is)))
    (case c_reader_both => (refine' K63.Df.mk ?a ?l ?c ?k; (case a => k_is); (case l => k_is); (case c => k_is); (case k => k_is)))
    (case c_law_feed => (refine' K63.Df.mk ?a ?l ?c ?k; (case a => k_is); (case l => k_is); (case c => k_is); (case k => k_is)))
    (case c_law_draw => (refine' K63.Df.mk ?a ?l ?c ?k; (case a => k_is); (case l => k_is); (case c => k_is); (case k => k_is)))
    (case c_law_reader => (refine' K63.Df.mk ?a ?l ?c ?k; (case a => k_is); (case l => k_is); (case c => k_is); (case k => k_is)))
    (case c_law_met => (refine' K63.Df.mk ?a ?l ?c ?k; (case a => k_is); (case l => k_is); (case c => k_is); (case k => k_is)))
    (case c_law_least => (refine' K63.Df.mk ?a ?l ?c ?k; (case a => k_is); (case l => k_is); (case c => k_is); (case k => k_is)))
    (case c_law_near => (refine' K63.Df.mk ?a ?l ?c ?k; (case a => k_is); (case l => k_is); (case c => k_is); (case k => k_is)))
    (case c_law_parting => (refine' K63.Df.mk ?a ?l ?c ?k; (case a => k_is); (case l => k_is); (case c => k_is); (case k => k_is)))
    (case c_law_both => (refine' K63.Df.mk ?a ?l ?c ?k; (case a => k_is); (case l => k_is); (case c => k_is); (case k => k_is)))
    (case c_law_are_told => (refine' K63.Df.mk ?a ?l ?c ?k; (case a => k_is); (case l => k_is); (case c => k_is); (case k => k_is)))
    (case c_law => (refine' K63.Df.mk ?a ?l ?c ?k; (case a => k_is); (case l => k_is); (case c => k_is); (case k => k_is)))
    (case c_want => (refine' K63.Dd.mk ?a ?l ?c ?k ?t ?r; (case a => k_is); (case l => k_is); (case c => k_is); (case k => k_is); (case t => k_is); (case r => exact ⟨_, rfl⟩)))
    (case c_want_reader => (refine' K63.Dd.mk ?a ?l ?c ?k ?t ?r; (case a => k_is); (case l => k_is); (case c => k_is); (case k => k_is); (case t => k_is); (case r => exact ⟨_, rfl⟩)))
    (case z_len => k_is)
    (case z_tuple => k_is)
    (case z_int => k_is)
    (case z_bool => k_is)
    (case z_list => k_is)
    (case z_dict => k_is)
    (case z_isinstance => k_is)
    (case z_all => k_is)
    (case z_max => k_is)
    (case z_zip => k_is)
    (case z_range => k_is)
    (case z_repr => k_is)
