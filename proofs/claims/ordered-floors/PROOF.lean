import PyProof.Rows.All
import Wide.All
import OpenK.AllK
import Wide.FinOn
import HandS.Conv
import HandS.Defaults
import HandS.DictComp
import HandS.ForMost
import HandS.IsInst
import HandS.RaiseMore
import HandS.SetFor
import HandS.SetKeys
import HandS.SetTxt0
import HandS.Style
import HandS.Walk
import HandS.Zip
import KE.GoesNew
import KE.KDictDisplayH
import KE.KRevSl
import PyProof.DictCompW
import PyProof.DictUpdate
import PyProof.InstNe
import PySem.Challenge.RW_crosswalls_k77_whole_closed_floors_order
set_option Elab.async false
set_option linter.all false
set_option maxRecDepth 100000
set_option maxHeartbeats 8000000

/-! ## CwMath -/
/-! Closed floors as systems of doors with a first place: what the program computes, in plain Lean. -/
namespace Cw

theorem nodup_sub_length {α : Type} [DecidableEq α] : ∀ {L U : List α}, L.Nodup → (∀ x ∈ L, x ∈ U) → L.length ≤ U.length
  | [], _, _, _ => Nat.zero_le _
  | x :: L, U, hn, hs => by
    have hx : x ∈ U := hs x List.mem_cons_self
    have hn' := List.nodup_cons.mp hn
    have h1 : L.length ≤ (U.erase x).length := nodup_sub_length hn'.2 fun y hy => by
      have hyx : y ≠ x := fun e => hn'.1 (e ▸ hy)
      exact (List.mem_erase_of_ne hyx).mpr (hs y (List.mem_cons_of_mem _ hy))
    have h2 := List.length_erase_of_mem hx
    have h3 : 0 < U.length := List.length_pos_of_mem hx
    simp only [List.length_cons]
    omega

section Bfs
variable {α : Type} [DecidableEq α]

def addAll (L : List α) : List α → List α
  | [] => L
  | y :: ys => addAll (if y ∈ L then L else L ++ [y]) ys

theorem addAll_append (L ys zs : List α) : addAll L (ys ++ zs) = addAll (addAll L ys) zs := by
  induction ys generalizing L with
  | nil => rfl
  | cons y ys ih => exact ih _
theorem addAll_snoc (L ys : List α) (y : α) : addAll L (ys ++ [y]) = if y ∈ addAll L ys then addAll L ys else addAll L ys ++ [y] := by
  rw [addAll_append]; rfl
theorem addAll_mem {z : α} : ∀ {ys L : List α}, z ∈ addAll L ys ↔ z ∈ L ∨ z ∈ ys
  | [], L => by simp [addAll]
  | y :: ys, L => by
    unfold addAll
    rw [addAll_mem]
    split
    · rename_i h
      constructor
      · rintro (a | a)
        · exact .inl a
        · exact .inr (List.mem_cons_of_mem _ a)
      · rintro (a | a)
        · exact .inl a
        · rcases List.mem_cons.mp a with rfl | a
          · exact .inl h
          · exact .inr a
    · rw [List.mem_append, List.mem_singleton, List.mem_cons, or_assoc]
theorem addAll_prefix : ∀ (ys L : List α), L <+: addAll L ys
  | [], L => List.prefix_refl L
  | y :: ys, L => by
    unfold addAll
    refine List.IsPrefix.trans ?_ (addAll_prefix ys _)
    split
    · exact List.prefix_refl L
    · exact List.prefix_append L [y]
theorem nodup_snoc {L : List α} {y : α} (h : L.Nodup) (hy : ¬ y ∈ L) : (L ++ [y]).Nodup := by
  rw [List.nodup_append]
  refine ⟨h, by simp, ?_⟩
  intro a ha b hb e
  rw [List.mem_singleton] at hb
  exact hy (hb ▸ e ▸ ha)
theorem addAll_nodup : ∀ {ys L : List α}, L.Nodup → (addAll L ys).Nodup
  | [], _, h => h
  | y :: ys, L, h => by
    unfold addAll
    apply addAll_nodup
    split
    · exact h
    · rename_i hy
      exact nodup_snoc h hy

def bstep (succs : α → List α) (i : Nat) (L : List α) : List α :=
  match L[i]? with
  | some x => addAll L (succs x)
  | none => L

def bfs (succs : α → List α) (x0 : α) : Nat → List α
  | 0 => [x0]
  | i + 1 => bstep succs i (bfs succs x0 i)

variable {succs : α → List α} {x0 : α}

theorem bstep_some {i : Nat} {L : List α} {x : α} (h : L[i]? = some x) : bstep succs i L = addAll L (succs x) := by
  unfold bstep; rw [h]
theorem bstep_none {i : Nat} {L : List α} (h : L[i]? = none) : bstep succs i L = L := by
  unfold bstep; rw [h]
theorem bstep_prefix (i : Nat) (L : List α) : L <+: bstep succs i L := by
  unfold bstep
  split
  · exact addAll_prefix _ _
  · exact List.prefix_refl _
theorem bfs_prefix_add (i j : Nat) : bfs succs x0 i <+: bfs succs x0 (i + j) := by
  induction j with
  | zero => exact List.prefix_refl _
  | succ j ih => exact ih.trans (bstep_prefix _ _)
theorem bfs_prefix {i j : Nat} (h : i ≤ j) : bfs succs x0 i <+: bfs succs x0 j := by
  have := bfs_prefix_add (succs := succs) (x0 := x0) i (j - i)
  rwa [show i + (j - i) = j by omega] at this
theorem prefix_get {L M : List α} (h : L <+: M) {i : Nat} {x : α} (e : L[i]? = some x) : M[i]? = some x := by
  obtain ⟨t, rfl⟩ := h
  rw [List.getElem?_append_left (List.getElem?_eq_some_iff.mp e).1]
  exact e
theorem bfs_nodup (i : Nat) : (bfs succs x0 i).Nodup := by
  induction i with
  | zero => show [x0].Nodup; simp
  | succ i ih =>
    show (bstep succs i _).Nodup
    unfold bstep
    split
    · exact addAll_nodup ih
    · exact ih
theorem bfs_head (i : Nat) : (bfs succs x0 i)[0]? = some x0 := prefix_get (bfs_prefix (Nat.zero_le i)) rfl
theorem bfs_all {P : α → Prop} (h0 : P x0) (hs : ∀ x, P x → ∀ y ∈ succs x, P y) (i : Nat) : ∀ x ∈ bfs succs x0 i, P x := by
  induction i with
  | zero =>
    intro x hx
    have : x = x0 := by simpa [bfs] using hx
    exact this ▸ h0
  | succ i ih =>
    intro x hx
    have hx : x ∈ bstep succs i (bfs succs x0 i) := hx
    cases e : (bfs succs x0 i)[i]? with
    | none => rw [bstep_none e] at hx; exact ih x hx
    | some z =>
      rw [bstep_some e, addAll_mem] at hx
      rcases hx with hx | hx
      · exact ih x hx
      · exact hs z (ih z (List.mem_of_getElem? e)) x hx
theorem bfs_done (i : Nat) : ∀ j x, j < i → (bfs succs x0 i)[j]? = some x → ∀ y ∈ succs x, y ∈ bfs succs x0 i := by
  induction i with
  | zero => intro j x h; omega
  | succ i ih =>
    intro j x hj hx y hy
    have pre : bfs succs x0 i <+: bfs succs x0 (i + 1) := bfs_prefix (Nat.le_succ i)
    cases e : (bfs succs x0 i)[i]? with
    | none =>
      have e1 : bfs succs x0 (i + 1) = bfs succs x0 i := bstep_none e
      rw [e1] at hx ⊢
      have hl := List.getElem?_eq_none_iff.mp e
      have hl2 := (List.getElem?_eq_some_iff.mp hx).1
      exact ih j x (by omega) hx y hy
    | some z =>
      have e1 : bfs succs x0 (i + 1) = addAll (bfs succs x0 i) (succs z) := bstep_some e
      by_cases hji : j < i
      · have hl := (List.getElem?_eq_some_iff.mp e).1
        have hx' : (bfs succs x0 i)[j]? = some x := by
          have h2 : (bfs succs x0 i)[j]? = some (bfs succs x0 i)[j] := List.getElem?_eq_getElem (by omega)
          have h3 := prefix_get pre h2
          rw [hx] at h3
          rw [h2, ← h3]
        exact pre.subset (ih j x hji hx' y hy)
      · have hj' : j = i := by omega
        subst hj'
        have h3 := prefix_get pre e
        rw [hx] at h3
        cases h3
        rw [e1, addAll_mem]
        exact .inr hy
/-- from where every place has been looked at nothing changes -/
theorem bfs_stop {i : Nat} (h : (bfs succs x0 i).length ≤ i) (j : Nat) : bfs succs x0 (i + j) = bfs succs x0 i := by
  induction j with
  | zero => rfl
  | succ j ih =>
    show bstep succs (i + j) (bfs succs x0 (i + j)) = _
    rw [ih]
    exact bstep_none (List.getElem?_eq_none_iff.mpr (by omega))
theorem bfs_eq {i N : Nat} (h : (bfs succs x0 i).length ≤ i) (hN : i ≤ N) : bfs succs x0 N = bfs succs x0 i := by
  have := bfs_stop h (N - i)
  rwa [show i + (N - i) = N by omega] at this

theorem addAll_map {β : Type} [DecidableEq β] {f : α → β} {P : α → Prop} (inj : ∀ x y, P x → P y → f x = f y → x = y) :
    ∀ (ys L : List α), (∀ x ∈ L, P x) → (∀ y ∈ ys, P y) → addAll (L.map f) (ys.map f) = (addAll L ys).map f
  | [], _, _, _ => rfl
  | y :: ys, L, hL, hy => by
    show addAll (if f y ∈ L.map f then L.map f else L.map f ++ [f y]) (ys.map f) = (addAll (if y ∈ L then L else L ++ [y]) ys).map f
    have py : P y := hy y List.mem_cons_self
    have hm : f y ∈ L.map f ↔ y ∈ L := by
      constructor
      · intro h
        obtain ⟨x, hx, e⟩ := List.mem_map.mp h
        exact inj x y (hL x hx) py e ▸ hx
      · intro h; exact List.mem_map_of_mem h
    by_cases h : y ∈ L
    · rw [if_pos h, if_pos (hm.mpr h)]
      exact addAll_map inj ys L hL fun z hz => hy z (List.mem_cons_of_mem _ hz)
    · rw [if_neg h, if_neg (fun z => h (hm.mp z))]
      have := addAll_map inj ys (L ++ [y]) (fun x hx => by
        rcases List.mem_append.mp hx with a | a
        · exact hL x a
        · rw [List.mem_singleton.mp a]; exact py) fun z hz => hy z (List.mem_cons_of_mem _ hz)
      rw [← this, List.map_append]
      rfl
theorem bfs_map {β : Type} [DecidableEq β] {f : α → β} {P : α → Prop} {succs' : β → List β} (h0 : P x0) (hs : ∀ x, P x → ∀ y ∈ succs x, P y)
    (inj : ∀ x y, P x → P y → f x = f y → x = y) (hom : ∀ x, P x → succs' (f x) = (succs x).map f) (i : Nat) : bfs succs' (f x0) i = (bfs succs x0 i).map f := by
  induction i with
  | zero => rfl
  | succ i ih =>
    show bstep succs' i (bfs succs' (f x0) i) = (bstep succs i (bfs succs x0 i)).map f
    rw [ih]
    cases e : (bfs succs x0 i)[i]? with
    | none => rw [bstep_none e, bstep_none (by rw [List.getElem?_map, e]; rfl)]
    | some z =>
      rw [bstep_some e, bstep_some (x := f z) (by rw [List.getElem?_map, e]; rfl)]
      have pz : P z := bfs_all h0 hs i z (List.mem_of_getElem? e)
      rw [hom z pz]
      exact addAll_map inj _ _ (bfs_all h0 hs i) (hs z pz)
end Bfs

/-! ### systems -/
section Sys
variable {α : Type} [DecidableEq α]
/-- the door of kind k of a place; a kind that is not there leads nowhere else -/
def gstep (S : List (α → α)) (k : Nat) (x : α) : α :=
  match S[k]? with
  | some f => f x
  | none => x
def gwalk (S : List (α → α)) (x : α) (w : List Nat) : α := w.foldl (fun p k => gstep S k p) x
def gsucc (S : List (α → α)) (x : α) : List α := S.map fun f => f x
/-- the places in the order in which they are found -/
def gfound (S : List (α → α)) (x0 : α) (N : Nat) : List α := bfs (gsucc S) x0 N
def gtab (S : List (α → α)) (x0 : α) (N : Nat) : List (List Nat) :=
  S.map fun f => (gfound S x0 N).map fun p => (gfound S x0 N).idxOf (f p)
variable {S : List (α → α)} {x0 : α}
theorem gwalk_nil (x : α) : gwalk S x [] = x := rfl
theorem gwalk_snoc (x : α) (w : List Nat) (k : Nat) : gwalk S x (w ++ [k]) = gstep S k (gwalk S x w) := by
  unfold gwalk; rw [List.foldl_append]; rfl
theorem gwalk_append (x : α) (w v : List Nat) : gwalk S x (w ++ v) = gwalk S (gwalk S x w) v := by
  unfold gwalk; rw [List.foldl_append]
theorem gstep_mem (k : Nat) (x : α) : gstep S k x = x ∨ gstep S k x ∈ gsucc S x := by
  unfold gstep
  cases e : S[k]? with
  | none => exact .inl rfl
  | some f => exact .inr (List.mem_map.mpr ⟨f, List.mem_of_getElem? e, rfl⟩)
theorem snoc_induction {P : List Nat → Prop} (h0 : P []) (hs : ∀ w k, P w → P (w ++ [k])) (w : List Nat) : P w := by
  have key : ∀ n (w : List Nat), w.length = n → P w := by
    intro n
    induction n with
    | zero => intro w hw; rw [List.length_eq_zero_iff.mp hw]; exact h0
    | succ n ih =>
      intro w hw
      have hne : w ≠ [] := fun e => by rw [e] at hw; cases hw
      have e := List.dropLast_concat_getLast hne
      rw [← e]
      exact hs _ _ (ih _ (by rw [List.length_dropLast]; omega))
  exact key _ w rfl
theorem gwalk_inv {P : α → Prop} (h0 : P x0) (hs : ∀ x, P x → ∀ y ∈ gsucc S x, P y) (w : List Nat) : P (gwalk S x0 w) := by
  induction w using snoc_induction with
  | h0 => exact h0
  | hs w k ih =>
    rw [gwalk_snoc]
    rcases gstep_mem (S := S) k (gwalk S x0 w) with e | e
    · rw [e]; exact ih
    · exact hs _ ih _ e
theorem gfound_nodup (N : Nat) : (gfound S x0 N).Nodup := bfs_nodup N
/-- what is found is what ways lead to -/
theorem gfound_reach (N : Nat) : ∀ x ∈ gfound S x0 N, ∃ w, gwalk S x0 w = x := by
  refine bfs_all (P := fun x => ∃ w, gwalk S x0 w = x) ⟨[], rfl⟩ ?_ N
  rintro x ⟨w, rfl⟩ y hy
  obtain ⟨f, hf, rfl⟩ := List.mem_map.mp hy
  obtain ⟨k, hk⟩ := List.mem_iff_getElem?.mp hf
  refine ⟨w ++ [k], ?_⟩
  rw [gwalk_snoc]
  unfold gstep
  rw [hk]
/-- N is enough: at most N places can be found -/
def Enough (S : List (α → α)) (x0 : α) (N : Nat) : Prop := ∃ U : List α, U.length ≤ N ∧ ∀ w, gwalk S x0 w ∈ U
theorem gfound_len {N : Nat} (h : Enough S x0 N) (i : Nat) : (gfound S x0 i).length ≤ N := by
  obtain ⟨U, hU, hm⟩ := h
  refine Nat.le_trans (nodup_sub_length (bfs_nodup i) fun x hx => ?_) hU
  obtain ⟨w, rfl⟩ := gfound_reach i x hx
  exact hm w
theorem gfound_closed {N : Nat} (h : Enough S x0 N) : ∀ x ∈ gfound S x0 N, ∀ y ∈ gsucc S x, y ∈ gfound S x0 N := by
  intro x hx y hy
  obtain ⟨j, hj⟩ := List.mem_iff_getElem?.mp hx
  have := (List.getElem?_eq_some_iff.mp hj).1
  have hl := gfound_len h N
  exact bfs_done N j x (by omega) hj y hy
theorem gfound_zero (N : Nat) : (gfound S x0 N)[0]? = some x0 := bfs_head N
theorem gfound_x0 (N : Nat) : x0 ∈ gfound S x0 N := List.mem_of_getElem? (gfound_zero N)
theorem gfound_walk {N : Nat} (h : Enough S x0 N) (w : List Nat) : gwalk S x0 w ∈ gfound S x0 N :=
  gwalk_inv (P := fun x => x ∈ gfound S x0 N) (gfound_x0 N) (gfound_closed h) w
/-- the loop's end: whatever the turn at which everything has been looked at -/
theorem gfound_at {N i : Nat} (h : Enough S x0 N) (hi : (gfound S x0 i).length ≤ i) (hlt : ∀ j, j < i → j < (gfound S x0 j).length) : gfound S x0 i = gfound S x0 N := by
  have hiN : i ≤ N := by
    rcases Nat.eq_zero_or_pos i with e | e
    · omega
    · have h1 := hlt (i - 1) (by omega)
      have h2 := gfound_len h (i - 1)
      omega
  exact (bfs_eq hi hiN).symm
end Sys

/-! ### tables -/
abbrev Tab := List (List Nat)
def sys (T : Tab) : List (Nat → Nat) := T.map fun row p => row.getD p 0
/-- the place behind a way -/
def walk (T : Tab) (p : Nat) (w : List Nat) : Nat := gwalk (sys T) p w
def places (T : Tab) : Nat := (T.headD []).length
def Rel (T : Tab) (u v : List Nat) : Prop := walk T 0 u = walk T 0 v
def step (T : Tab) (k p : Nat) : Nat := gstep (sys T) k p
theorem walk_snoc (T : Tab) (p : Nat) (w : List Nat) (k : Nat) : walk T p (w ++ [k]) = step T k (walk T p w) := gwalk_snoc _ _ _
theorem step_some {T : Tab} {k p : Nat} {row : List Nat} (h : T[k]? = some row) : step T k p = row.getD p 0 := by
  unfold step gstep sys; rw [List.getElem?_map, h]; rfl
theorem step_none {T : Tab} {k p : Nat} (h : T[k]? = none) : step T k p = p := by
  unfold step gstep sys; rw [List.getElem?_map, h]; rfl

/-- rows of one length m, entries below m, each door leads back -/
structure Good (T : Tab) (m : Nat) : Prop where
  pos : 0 < m
  len : ∀ row ∈ T, row.length = m
  ent : ∀ row ∈ T, ∀ p, p < m → row.getD p 0 < m
  inv : ∀ row ∈ T, ∀ p, p < m → row.getD (row.getD p 0) 0 = p
/-- the doors of the pairs of kinds may be exchanged -/
def Exch (prs : List (Nat × Nat)) (T : Tab) (m : Nat) : Prop := ∀ q ∈ prs, ∀ p, p < m → step T q.2 (step T q.1 p) = step T q.1 (step T q.2 p)

theorem Good.step_lt {T : Tab} {m : Nat} (g : Good T m) {k p : Nat} (hp : p < m) : step T k p < m := by
  cases e : T[k]? with
  | none => rw [step_none e]; exact hp
  | some row => rw [step_some e]; exact g.ent row (List.mem_of_getElem? e) p hp
theorem Good.step_inv {T : Tab} {m : Nat} (g : Good T m) {k p : Nat} (hp : p < m) : step T k (step T k p) = p := by
  cases e : T[k]? with
  | none => rw [step_none e, step_none e]
  | some row => rw [step_some e, step_some e]; exact g.inv row (List.mem_of_getElem? e) p hp
theorem Good.walk_lt {T : Tab} {m : Nat} (g : Good T m) (w : List Nat) : walk T 0 w < m := by
  induction w using snoc_induction with
  | h0 => exact g.pos
  | hs w k ih => rw [walk_snoc]; exact g.step_lt ih
theorem Good.enough {T : Tab} {m : Nat} (g : Good T m) : Enough (sys T) 0 m := ⟨List.range m, by simp, fun w => List.mem_range.mpr (g.walk_lt w)⟩
theorem Good.places {T : Tab} {m : Nat} (g : Good T m) (h : T ≠ []) : places T = m := by
  cases T with
  | nil => exact absurd rfl h
  | cons row T => exact g.len row List.mem_cons_self

/-! ### numbering -/
section
variable {α : Type} [DecidableEq α] {S : List (α → α)} {x0 : α} {N : Nat}
theorem idxOf_inj {L : List α} {x y : α} (hx : x ∈ L) (hy : y ∈ L) (h : L.idxOf x = L.idxOf y) : x = y := by
  have h1 := List.getElem_idxOf (List.idxOf_lt_length_of_mem hx)
  have h2 := List.getElem_idxOf (List.idxOf_lt_length_of_mem hy)
  rw [← h1, ← h2]
  simp only [h]
theorem getD_map_idx {L : List α} {f : α → Nat} {x : α} (hx : x ∈ L) : (L.map f).getD (L.idxOf x) 0 = f x := by
  have hl := List.idxOf_lt_length_of_mem hx
  rw [List.getD_eq_getElem?_getD, List.getElem?_map, List.getElem?_eq_getElem hl, List.getElem_idxOf hl]
  rfl
theorem idx_at {L : List α} (hn : L.Nodup) {i : Nat} (hi : i < L.length) : L.idxOf L[i] = i := by
  have hm : L[i] ∈ L := List.getElem_mem hi
  have h1 := List.getElem_idxOf (List.idxOf_lt_length_of_mem hm)
  exact (List.getElem_inj hn).mp h1
theorem gtab_step (h : Enough S x0 N) {x : α} (hx : x ∈ gfound S x0 N) (k : Nat) :
    step (gtab S x0 N) k ((gfound S x0 N).idxOf x) = (gfound S x0 N).idxOf (gstep S k x) := by
  cases e : S[k]? with
  | none =>
    rw [step_none (by unfold gtab; rw [List.getElem?_map, e]; rfl)]
    unfold gstep; rw [e]
  | some f =>
    rw [step_some (row := (gfound S x0 N).map fun p => (gfound S x0 N).idxOf (f p)) (by unfold gtab; rw [List.getElem?_map, e]; rfl), getD_map_idx hx]
    unfold gstep; rw [e]
theorem gtab_zero : (gfound S x0 N).idxOf x0 = 0 := by
  have h := gfound_zero (S := S) (x0 := x0) N
  obtain ⟨hl, e⟩ := List.getElem?_eq_some_iff.mp h
  have q := idx_at (gfound_nodup (S := S) (x0 := x0) N) hl
  rw [e] at q
  exact q
theorem gtab_walk (h : Enough S x0 N) (w : List Nat) : walk (gtab S x0 N) 0 w = (gfound S x0 N).idxOf (gwalk S x0 w) := by
  induction w using snoc_induction with
  | h0 => exact gtab_zero.symm
  | hs w k ih => rw [walk_snoc, ih, gtab_step h (gfound_walk h w), gwalk_snoc]
theorem gtab_rel (h : Enough S x0 N) (u v : List Nat) : Rel (gtab S x0 N) u v ↔ gwalk S x0 u = gwalk S x0 v := by
  unfold Rel
  rw [gtab_walk h, gtab_walk h]
  exact ⟨idxOf_inj (gfound_walk h u) (gfound_walk h v), fun e => by rw [e]⟩
theorem gtab_length : (gtab S x0 N).length = S.length := by unfold gtab; rw [List.length_map]
theorem gtab_row_length {row : List Nat} (hr : row ∈ gtab S x0 N) : row.length = (gfound S x0 N).length := by
  obtain ⟨f, _, rfl⟩ := List.mem_map.mp hr
  rw [List.length_map]
theorem gfound_pos : 0 < (gfound S x0 N).length := List.length_pos_of_mem (gfound_x0 N)
/-- each door leads back, in the system: then in its table -/
theorem gtab_good (h : Enough S x0 N) (hinv : ∀ x ∈ gfound S x0 N, ∀ f ∈ S, f (f x) = x) : Good (gtab S x0 N) (gfound S x0 N).length where
  pos := gfound_pos
  len := fun row hr => gtab_row_length hr
  ent := fun row hr p hp => by
    obtain ⟨f, hf, rfl⟩ := List.mem_map.mp hr
    have e := getD_map_idx (L := gfound S x0 N) (f := fun p => (gfound S x0 N).idxOf (f p)) (List.getElem_mem hp)
    rw [idx_at (gfound_nodup N) hp] at e
    rw [e]
    exact List.idxOf_lt_length_of_mem (gfound_closed h _ (List.getElem_mem hp) _ (List.mem_map.mpr ⟨f, hf, rfl⟩))
  inv := fun row hr p hp => by
    obtain ⟨f, hf, rfl⟩ := List.mem_map.mp hr
    have hm := List.getElem_mem hp
    have e := getD_map_idx (L := gfound S x0 N) (f := fun p => (gfound S x0 N).idxOf (f p)) hm
    rw [idx_at (gfound_nodup N) hp] at e
    rw [e]
    have e2 := getD_map_idx (L := gfound S x0 N) (f := fun p => (gfound S x0 N).idxOf (f p)) (gfound_closed h _ hm _ (List.mem_map.mpr ⟨f, hf, rfl⟩))
    rw [e2, hinv _ hm f hf]
    exact idx_at (gfound_nodup N) hp
theorem gtab_exch (h : Enough S x0 N) {prs : List (Nat × Nat)} (hx : ∀ q ∈ prs, ∀ x ∈ gfound S x0 N, gstep S q.2 (gstep S q.1 x) = gstep S q.1 (gstep S q.2 x)) : Exch prs (gtab S x0 N) (gfound S x0 N).length := by
  intro q hq p hp
  have hm := List.getElem_mem hp
  have st : ∀ k x, x ∈ gfound S x0 N → gstep S k x ∈ gfound S x0 N := fun k x hx => by
    rcases gstep_mem (S := S) k x with e | e
    · rw [e]; exact hx
    · exact gfound_closed h x hx _ e
  have e := idx_at (gfound_nodup (S := S) (x0 := x0) N) hp
  have e' : (gfound S x0 N).idxOf (gfound S x0 N)[p] = p := e
  rw [← e', gtab_step h hm, gtab_step h hm, gtab_step h (st _ _ hm), gtab_step h (st _ _ hm), hx q hq _ hm]
end

/-- two systems of as many doors, with the same ways to the same places, have the same table -/
theorem gtab_same {α β : Type} [DecidableEq α] [DecidableEq β] {S : List (α → α)} {x0 : α} {N : Nat} {S' : List (β → β)} {y0 : β} {M : Nat} (h : Enough S x0 N) (h' : Enough S' y0 M) (hl : S.length = S'.length)
    (rel : ∀ u v, gwalk S x0 u = gwalk S x0 v ↔ gwalk S' y0 u = gwalk S' y0 v) : gtab S x0 N = gtab S' y0 M := by
  classical
  let P : α → Prop := fun x => ∃ w, gwalk S x0 w = x
  let f : α → β := fun x => if hx : P x then gwalk S' y0 (Classical.choose hx) else y0
  have hf : ∀ w, f (gwalk S x0 w) = gwalk S' y0 w := fun w => by
    have hx : P (gwalk S x0 w) := ⟨w, rfl⟩
    show (if hx : P (gwalk S x0 w) then gwalk S' y0 (Classical.choose hx) else y0) = _
    rw [dif_pos hx]
    exact (rel _ _).mp (Classical.choose_spec hx)
  have inj : ∀ x y, P x → P y → f x = f y → x = y := by
    rintro x y ⟨u, rfl⟩ ⟨v, rfl⟩ e
    rw [hf, hf] at e
    exact (rel u v).mpr e
  have hs : ∀ x, P x → ∀ y ∈ gsucc S x, P y := by
    rintro x ⟨w, rfl⟩ y hy
    obtain ⟨g, hg, rfl⟩ := List.mem_map.mp hy
    obtain ⟨k, hk⟩ := List.mem_iff_getElem?.mp hg
    refine ⟨w ++ [k], ?_⟩
    rw [gwalk_snoc]; unfold gstep; rw [hk]
  have stepf : ∀ x, P x → ∀ (k : Nat) (g : α → α) (g' : β → β), S[k]? = some g → S'[k]? = some g' → g' (f x) = f (g x) := by
    rintro x ⟨w, rfl⟩ k g g' hg hg'
    have e1 : gwalk S x0 (w ++ [k]) = g (gwalk S x0 w) := by rw [gwalk_snoc]; unfold gstep; rw [hg]
    have e2 : gwalk S' y0 (w ++ [k]) = g' (gwalk S' y0 w) := by rw [gwalk_snoc]; unfold gstep; rw [hg']
    rw [← e1, hf, hf, e2]
  have hom : ∀ x, P x → gsucc S' (f x) = (gsucc S x).map f := by
    intro x px
    apply List.ext_getElem?
    intro k
    unfold gsucc
    rw [List.getElem?_map, List.getElem?_map, List.getElem?_map]
    cases e : S[k]? with
    | none =>
      have : S'[k]? = none := List.getElem?_eq_none_iff.mpr (by have := List.getElem?_eq_none_iff.mp e; omega)
      rw [this]; rfl
    | some g =>
      have hk : k < S'.length := by have := (List.getElem?_eq_some_iff.mp e).1; omega
      rw [List.getElem?_eq_getElem hk]
      show some (S'[k] (f x)) = some (f (g x))
      rw [stepf x px k g _ e (List.getElem?_eq_getElem hk)]
  have p0 : P x0 := ⟨[], rfl⟩
  have f0 : f x0 = y0 := hf []
  have found : ∀ i, gfound S' y0 i = (gfound S x0 i).map f := fun i => by
    rw [← f0]
    exact bfs_map (P := P) p0 hs inj hom i
  -- the two bounds give the same list
  have both : gfound S' y0 M = (gfound S x0 N).map f := by
    rw [← found N]
    have l1 := gfound_len h' M
    have l2 := gfound_len h N
    have l3 : (gfound S' y0 N).length = (gfound S x0 N).length := by rw [found N, List.length_map]
    rcases Nat.le_total M N with e | e
    · exact (bfs_eq (i := M) l1 e).symm
    · exact bfs_eq (i := N) (show (gfound S' y0 N).length ≤ N by omega) e
  have pall : ∀ x ∈ gfound S x0 N, P x := gfound_reach N
  unfold gtab
  apply List.ext_getElem?
  intro k
  rw [List.getElem?_map, List.getElem?_map]
  cases e : S[k]? with
  | none =>
    have : S'[k]? = none := List.getElem?_eq_none_iff.mpr (by have := List.getElem?_eq_none_iff.mp e; omega)
    rw [this]; rfl
  | some g =>
    have hk : k < S'.length := by have := (List.getElem?_eq_some_iff.mp e).1; omega
    have ek : S'[k]? = some S'[k] := List.getElem?_eq_getElem hk
    rw [ek]
    simp only [Option.map_some, Option.some.injEq]
    rw [both, List.map_map]
    apply List.map_congr_left
    intro x hx
    show (gfound S x0 N).idxOf (g x) = ((gfound S x0 N).map f).idxOf (S'[k] (f x))
    rw [stepf x (pall x hx) k g _ e ek]
    have pg : P (g x) := hs x (pall x hx) _ (List.mem_map.mpr ⟨g, List.mem_of_getElem? e, rfl⟩)
    have hm : g x ∈ gfound S x0 N := gfound_closed h x hx _ (List.mem_map.mpr ⟨g, List.mem_of_getElem? e, rfl⟩)
    -- the index in the image
    have h1 := List.idxOf_lt_length_of_mem hm
    have h2 : f (g x) ∈ (gfound S x0 N).map f := List.mem_map_of_mem hm
    have h3 := List.idxOf_lt_length_of_mem h2
    have h4 := List.getElem_idxOf h3
    rw [List.getElem_map] at h4
    have h5 := inj _ _ (pall _ (List.getElem_mem _)) pg h4
    have h6 := idx_at (gfound_nodup (S := S) (x0 := x0) N) (i := ((gfound S x0 N).map f).idxOf (f (g x))) (by simpa using h3)
    have h7 : (gfound S x0 N).idxOf (g x) = ((gfound S x0 N).map f).idxOf (f (g x)) := by
      rw [← congrArg (fun z => (gfound S x0 N).idxOf z) h5]; exact h6
    exact h7

/-- the program's numbered rows -/
def num (T : Tab) : Tab := gtab (sys T) 0 (places T)
end Cw

/-! ## CwLat -/
/-! Closed floors: the order, the greatest lower and the least upper bound, by relations on ways. -/
namespace Cw

/-- a closed floor of n kinds, of m places: every place is found, and the numbers are those of the finding -/
structure Fl (n : Nat) (prs : List (Nat × Nat)) (T : Tab) (m : Nat) : Prop where
  len : T.length = n
  good : Good T m
  exch : Exch prs T m
  canon : num T = T
  reach : ∀ p, p < m → ∃ w, walk T 0 w = p

theorem sys_length (T : Tab) : (sys T).length = T.length := by unfold sys; rw [List.length_map]
theorem ne_nil_of {T : Tab} {n : Nat} (h : T.length = n) (hn : 0 < n) : T ≠ [] := fun e => by rw [e] at h; simp at h; omega
theorem sys_mem {T : Tab} {f : Nat → Nat} (h : f ∈ sys T) : ∃ row ∈ T, f = fun p => row.getD p 0 := by
  obtain ⟨row, hr, rfl⟩ := List.mem_map.mp h
  exact ⟨row, hr, rfl⟩
/-- numbering rows that are good makes a floor with the same ways to the same places -/
theorem num_fl {T : Tab} {n m : Nat} {prs : List (Nat × Nat)} (hn : 0 < n) (hl : T.length = n) (g : Good T m) (x : Exch prs T m) :
    Fl n prs (num T) (gfound (sys T) 0 m).length ∧ (∀ u v, Rel (num T) u v ↔ Rel T u v) := by
  have hp : places T = m := g.places (ne_nil_of hl hn)
  have e : num T = gtab (sys T) 0 m := by unfold num; rw [hp]
  have rel : ∀ u v, Rel (num T) u v ↔ Rel T u v := fun u v => by rw [e]; exact gtab_rel g.enough u v
  have hlt : ∀ p ∈ gfound (sys T) 0 m, p < m := fun p hp => by
    obtain ⟨w, rfl⟩ := gfound_reach m p hp
    exact g.walk_lt w
  have good : Good (gtab (sys T) 0 m) (gfound (sys T) 0 m).length := gtab_good g.enough fun p hp f hf => by
    obtain ⟨row, hr, rfl⟩ := sys_mem hf
    exact g.inv row hr p (hlt p hp)
  have l2 : (gtab (sys T) 0 m).length = n := by rw [gtab_length, sys_length, hl]
  refine ⟨⟨by rw [e]; exact l2, by rw [e]; exact good, ?_, ?_, ?_⟩, rel⟩
  · rw [e]
    exact gtab_exch g.enough fun q hq p hp => x q hq p (hlt p hp)
  · rw [e]
    have hp2 : places (gtab (sys T) 0 m) = (gfound (sys T) 0 m).length := good.places (ne_nil_of l2 hn)
    unfold num
    rw [hp2]
    refine gtab_same good.enough g.enough (by rw [sys_length, l2, sys_length, hl]) fun u v => ?_
    exact (gtab_rel g.enough u v)
  · intro p hp
    rw [e]
    obtain ⟨w, hw⟩ := gfound_reach m _ (List.getElem_mem hp)
    refine ⟨w, ?_⟩
    rw [gtab_walk g.enough, hw]
    exact idx_at (gfound_nodup m) hp

section
variable {n m m' : Nat} {prs : List (Nat × Nat)} {T T' : Tab}
theorem Fl.places (f : Fl n prs T m) (hn : 0 < n) : places T = m := f.good.places (ne_nil_of f.len hn)
/-- two floors with the same ways to the same places are one -/
theorem Fl.ext (f : Fl n prs T m) (f' : Fl n prs T' m') (h : ∀ u v, Rel T u v ↔ Rel T' u v) (hn : 0 < n) : T = T' := by
  rw [← f.canon, ← f'.canon]
  unfold num
  rw [f.places hn, f'.places hn]
  exact gtab_same f.good.enough f'.good.enough (by rw [sys_length, sys_length, f.len, f'.len]) h
/-- the coarser one has no more places -/
theorem Fl.fewer (f : Fl n prs T m) (f' : Fl n prs T' m') (h : ∀ u v, Rel T u v → Rel T' u v) : m' ≤ m := by
  classical
  let g : Nat → Nat := fun p => if hx : ∃ w, walk T 0 w = p then walk T' 0 (Classical.choose hx) else 0
  have hg : ∀ w, g (walk T 0 w) = walk T' 0 w := fun w => by
    have hx : ∃ v, walk T 0 v = walk T 0 w := ⟨w, rfl⟩
    show (if hx : ∃ v, walk T 0 v = walk T 0 w then walk T' 0 (Classical.choose hx) else 0) = _
    rw [dif_pos hx]
    exact h _ _ (Classical.choose_spec hx)
  have hs : ∀ p ∈ List.range m', p ∈ (List.range m).map g := fun p hp => by
    obtain ⟨w, hw⟩ := f'.reach p (List.mem_range.mp hp)
    rw [← hw, ← hg w]
    exact List.mem_map_of_mem (List.mem_range.mpr (f.good.walk_lt w))
  have := nodup_sub_length List.nodup_range hs
  simpa using this
theorem Fl.pos (f : Fl n prs T m) : 0 < m := f.good.pos
end

/-! ### pairs of places -/
theorem idx_pair (x : Nat × Nat) (L : List (Nat × Nat)) : @List.idxOf (Nat × Nat) instBEqOfDecidableEq x L = L.idxOf x := by
  have : (instBEqOfDecidableEq : BEq (Nat × Nat)) = instBEqProd := by
    apply congrArg BEq.mk
    funext a b
    exact Bool.eq_iff_iff.mpr (by simp [Prod.ext_iff])
  rw [this]
def msys (T T' : Tab) : List (Nat × Nat → Nat × Nat) := List.zipWith (fun r s x => (r.getD x.1 0, s.getD x.2 0)) T T'
theorem msys_length {T T' : Tab} (h : T.length = T'.length) : (msys T T').length = T.length := by
  unfold msys; rw [List.length_zipWith, h]; exact Nat.min_self _
theorem msys_step {T T' : Tab} (h : T.length = T'.length) (k : Nat) (x : Nat × Nat) : gstep (msys T T') k x = (step T k x.1, step T' k x.2) := by
  cases e : T[k]? with
  | none =>
    have e' : T'[k]? = none := List.getElem?_eq_none_iff.mpr (by have := List.getElem?_eq_none_iff.mp e; omega)
    rw [step_none e, step_none e']
    unfold gstep msys
    rw [List.getElem?_zipWith, e, e']
  | some r =>
    have hk : k < T'.length := by have := (List.getElem?_eq_some_iff.mp e).1; omega
    have e' : T'[k]? = some T'[k] := List.getElem?_eq_getElem hk
    rw [step_some e, step_some e']
    unfold gstep msys
    rw [List.getElem?_zipWith, e, e']
theorem msys_walk {T T' : Tab} (h : T.length = T'.length) (w : List Nat) : gwalk (msys T T') (0, 0) w = (walk T 0 w, walk T' 0 w) := by
  induction w using snoc_induction with
  | h0 => rfl
  | hs w k ih => rw [gwalk_snoc, ih, msys_step h, walk_snoc, walk_snoc]
/-- the pairs of places over which a room lies, in the order in which they are found -/
def met (T T' : Tab) : List (Nat × Nat) := gfound (msys T T') (0, 0) (places T * places T')
def prodList (a b : Nat) : List (Nat × Nat) := (List.range a).flatMap fun i => (List.range b).map fun j => (i, j)
theorem prodList_length (a b : Nat) : (prodList a b).length = a * b := by
  unfold prodList
  induction a with
  | zero => simp
  | succ a ih =>
    rw [List.range_succ, List.flatMap_append, List.length_append, ih]
    simp [Nat.succ_mul]
theorem mem_prodList {a b i j : Nat} (hi : i < a) (hj : j < b) : (i, j) ∈ prodList a b :=
  List.mem_flatMap.mpr ⟨i, List.mem_range.mpr hi, List.mem_map.mpr ⟨j, List.mem_range.mpr hj, rfl⟩⟩
section
variable {n m m' : Nat} {prs : List (Nat × Nat)} {T T' : Tab}
theorem met_enough (f : Fl n prs T m) (f' : Fl n prs T' m') : Enough (msys T T') (0, 0) (m * m') :=
  ⟨prodList m m', by rw [prodList_length]; exact Nat.le_refl _, fun w => by
    rw [msys_walk (f.len.trans f'.len.symm)]
    exact mem_prodList (f.good.walk_lt w) (f'.good.walk_lt w)⟩
theorem met_eq (f : Fl n prs T m) (f' : Fl n prs T' m') (hn : 0 < n) : met T T' = gfound (msys T T') (0, 0) (m * m') := by
  unfold met; rw [f.places hn, f'.places hn]
theorem met_mem (f : Fl n prs T m) (f' : Fl n prs T' m') (hn : 0 < n) (p : Nat × Nat) : p ∈ met T T' ↔ ∃ w, (walk T 0 w, walk T' 0 w) = p := by
  rw [met_eq f f' hn]
  constructor
  · intro h
    obtain ⟨w, hw⟩ := gfound_reach _ p h
    exact ⟨w, by rw [← hw, msys_walk (f.len.trans f'.len.symm)]⟩
  · rintro ⟨w, rfl⟩
    rw [← msys_walk (f.len.trans f'.len.symm)]
    exact gfound_walk (met_enough f f') w
theorem met_lt (f : Fl n prs T m) (f' : Fl n prs T' m') (hn : 0 < n) {p : Nat × Nat} (h : p ∈ met T T') : p.1 < m ∧ p.2 < m' := by
  obtain ⟨w, rfl⟩ := (met_mem f f' hn p).mp h
  exact ⟨f.good.walk_lt w, f'.good.walk_lt w⟩
theorem met_len (f : Fl n prs T m) (f' : Fl n prs T' m') (hn : 0 < n) : (met T T').length ≤ m * m' := by
  rw [met_eq f f' hn]; exact gfound_len (met_enough f f') _

/-! ### the order -/
/-- what the loop over the pairs asks: a first place stands with one second place only -/
def LeP (P : List (Nat × Nat)) : Prop := ∀ p ∈ P, ∀ q ∈ P, p.1 = q.1 → p.2 = q.2
theorem le_iff (f : Fl n prs T m) (f' : Fl n prs T' m') (hn : 0 < n) : LeP (met T T') ↔ ∀ u v, Rel T u v → Rel T' u v := by
  constructor
  · intro h u v e
    exact h (walk T 0 u, walk T' 0 u) ((met_mem f f' hn _).mpr ⟨u, rfl⟩) (walk T 0 v, walk T' 0 v) ((met_mem f f' hn _).mpr ⟨v, rfl⟩) e
  · intro h p hp q hq e
    obtain ⟨u, rfl⟩ := (met_mem f f' hn _).mp hp
    obtain ⟨v, rfl⟩ := (met_mem f f' hn _).mp hq
    exact h u v e

/-! ### & -/
/-- the rows of the pairs, numbered as they are found -/
def pairRows (T T' : Tab) : Tab := gtab (msys T T') (0, 0) (places T * places T')
theorem pair_fl (f : Fl n prs T m) (f' : Fl n prs T' m') (hn : 0 < n) :
    Fl n prs (pairRows T T') (met T T').length ∧ ∀ u v, Rel (pairRows T T') u v ↔ Rel T u v ∧ Rel T' u v := by
  have hl := f.len.trans f'.len.symm
  have en := met_enough f f'
  have ep : pairRows T T' = gtab (msys T T') (0, 0) (m * m') := by unfold pairRows; rw [f.places hn, f'.places hn]
  have em := met_eq f f' hn
  have rel : ∀ u v, Rel (pairRows T T') u v ↔ Rel T u v ∧ Rel T' u v := fun u v => by
    rw [ep, gtab_rel en, msys_walk hl, msys_walk hl]
    unfold Rel
    rw [Prod.mk.injEq]
  have hlt : ∀ p ∈ gfound (msys T T') (0, 0) (m * m'), p.1 < m ∧ p.2 < m' := fun p hp => met_lt f f' hn (by rw [em]; exact hp)
  have good : Good (gtab (msys T T') (0, 0) (m * m')) (gfound (msys T T') (0, 0) (m * m')).length := gtab_good en fun p hp g hg => by
    obtain ⟨k, hk⟩ := List.mem_iff_getElem?.mp hg
    have e1 : ∀ x, gstep (msys T T') k x = g x := fun x => by unfold gstep; rw [hk]
    rw [← e1, ← e1, msys_step hl, msys_step hl, f.good.step_inv (hlt p hp).1, f'.good.step_inv (hlt p hp).2]
  have l2 : (gtab (msys T T') (0, 0) (m * m')).length = n := by rw [gtab_length, msys_length hl, f.len]
  refine ⟨⟨by rw [ep]; exact l2, by rw [ep, em]; exact good, ?_, ?_, ?_⟩, rel⟩
  · rw [ep, em]
    exact gtab_exch en fun q hq p hp => by
      rw [msys_step hl, msys_step hl, msys_step hl, msys_step hl, f.exch q hq _ (hlt p hp).1, f'.exch q hq _ (hlt p hp).2]
  · rw [ep]
    have hp2 : places (gtab (msys T T') (0, 0) (m * m')) = (gfound (msys T T') (0, 0) (m * m')).length := good.places (ne_nil_of l2 hn)
    unfold num
    rw [hp2]
    exact gtab_same good.enough en (by rw [sys_length, gtab_length]) fun u v => gtab_rel en u v
  · intro p hp
    rw [em] at hp
    rw [ep]
    obtain ⟨w, hw⟩ := gfound_reach (m * m') _ (List.getElem_mem hp)
    refine ⟨w, ?_⟩
    rw [gtab_walk en, hw]
    exact idx_at (gfound_nodup (m * m')) hp
/-- the pair behind a way, by its number -/
theorem pair_walk (f : Fl n prs T m) (f' : Fl n prs T' m') (hn : 0 < n) (w : List Nat) : walk (pairRows T T') 0 w = (met T T').idxOf (walk T 0 w, walk T' 0 w) := by
  have ep : pairRows T T' = gtab (msys T T') (0, 0) (m * m') := by unfold pairRows; rw [f.places hn, f'.places hn]
  rw [ep, gtab_walk (met_enough f f'), msys_walk (f.len.trans f'.len.symm), met_eq f f' hn, idx_pair]
end

/-! ### | -/
inductive Cl {α : Type} (R : α → α → Prop) : α → α → Prop
  | refl (a : α) : Cl R a a
  | tail {a b c : α} (h : Cl R a b) (r : R b c) : Cl R a c
section
variable {α : Type} {R : α → α → Prop}
theorem Cl.one {a b : α} (r : R a b) : Cl R a b := .tail (.refl a) r
theorem Cl.trans {a b c : α} (h : Cl R a b) (h' : Cl R b c) : Cl R a c := by
  induction h' with
  | refl => exact h
  | tail _ r ih => exact .tail ih r
theorem Cl.symm (hs : ∀ a b, R a b → R b a) {a b : α} (h : Cl R a b) : Cl R b a := by
  induction h with
  | refl => exact .refl _
  | tail _ r ih => exact (Cl.one (hs _ _ r)).trans ih
theorem Cl.least {S : α → α → Prop} (hr : ∀ a, S a a) (ht : ∀ a b c, S a b → S b c → S a c) (hi : ∀ a b, R a b → S a b) {a b : α} (h : Cl R a b) : S a b := by
  induction h with
  | refl => exact hr _
  | tail _ r ih => exact ht _ _ _ ih (hi _ _ r)
end
/-- one comes from a way to another by steps between ways that lead to the same place in the one or in the other -/
def Join (T T' : Tab) : List Nat → List Nat → Prop := Cl fun u v => Rel T u v ∨ Rel T' u v
/-- pairs, by their numbers, that have a part in common -/
def Share (P : List (Nat × Nat)) (i j : Nat) : Prop := ∃ p q, P[i]? = some p ∧ P[j]? = some q ∧ (p.1 = q.1 ∨ p.2 = q.2)
def Conn (P : List (Nat × Nat)) : Nat → Nat → Prop := Cl (Share P)
theorem Share.symm {P : List (Nat × Nat)} (i j : Nat) (h : Share P i j) : Share P j i := by
  obtain ⟨p, q, a, b, c⟩ := h
  exact ⟨q, p, b, a, c.elim (fun e => .inl e.symm) fun e => .inr e.symm⟩
/-- marks of the pairs: alike just where the pairs hang together -/
def Marks (P : List (Nat × Nat)) (M : List Nat) : Prop := M.length = P.length ∧ ∀ i j, i < P.length → j < P.length → (M.getD i 0 = M.getD j 0 ↔ Conn P i j)
/-- the marks numbered as they first stand -/
def cls (M : List Nat) (i : Nat) : Nat := (addAll [] M).idxOf (M.getD i 0)
/-- a row of the classes -/
def MergedRow (row M R : List Nat) : Prop := R.length = (addAll [] M).length ∧ ∀ i, i < M.length → R.getD (cls M i) 0 = cls M (row.getD i 0)
/-- the rows of the classes -/
def Merged (T : Tab) (M : List Nat) (T2 : Tab) : Prop := T2.length = T.length ∧ ∀ (k : Nat) (row R : List Nat), T[k]? = some row → T2[k]? = some R → MergedRow row M R

section
variable {n m m' : Nat} {prs : List (Nat × Nat)} {T T' : Tab}
theorem met_idx (f : Fl n prs T m) (f' : Fl n prs T' m') (hn : 0 < n) (w : List Nat) :
    (met T T').idxOf (walk T 0 w, walk T' 0 w) < (met T T').length ∧ (met T T')[(met T T').idxOf (walk T 0 w, walk T' 0 w)]? = some (walk T 0 w, walk T' 0 w) := by
  have hm : (walk T 0 w, walk T' 0 w) ∈ met T T' := (met_mem f f' hn _).mpr ⟨w, rfl⟩
  have hl := List.idxOf_lt_length_of_mem hm
  exact ⟨hl, by rw [List.getElem?_eq_getElem hl, List.getElem_idxOf hl]⟩
theorem met_nodup : (met T T').Nodup := gfound_nodup _
/-- pairs that hang together are those of ways that the join holds together -/
theorem conn_join (f : Fl n prs T m) (f' : Fl n prs T' m') (hn : 0 < n) (u v : List Nat) :
    Conn (met T T') ((met T T').idxOf (walk T 0 u, walk T' 0 u)) ((met T T').idxOf (walk T 0 v, walk T' 0 v)) ↔ Join T T' u v := by
  constructor
  · intro h
    generalize ea : (met T T').idxOf (walk T 0 u, walk T' 0 u) = a at h
    generalize eb : (met T T').idxOf (walk T 0 v, walk T' 0 v) = b at h
    induction h generalizing v with
    | refl =>
      have e := (met_idx f f' hn u).2
      rw [ea, ← eb, (met_idx f f' hn v).2] at e
      have e1 := Option.some.inj e
      exact .one (.inl (congrArg Prod.fst e1).symm)
    | tail h r ih =>
      rename_i b c
      obtain ⟨p, q, e1, e2, e3⟩ := r
      obtain ⟨w, hw⟩ := (met_mem f f' hn p).mp (List.mem_of_getElem? e1)
      have hb : (met T T').idxOf (walk T 0 w, walk T' 0 w) = b := by
        obtain ⟨hl, e⟩ := List.getElem?_eq_some_iff.mp e1
        rw [hw, ← e, ← idx_pair]
        exact idx_at met_nodup hl
      have hq : q = (walk T 0 v, walk T' 0 v) := by
        have e := (met_idx f f' hn v).2
        rw [eb, e2] at e
        exact Option.some.inj e
      refine (ih w hb).tail ?_
      rw [← hw, hq] at e3
      exact e3
  · intro h
    induction h with
    | refl => exact .refl _
    | tail h r ih =>
      rename_i b c
      refine ih.tail ?_
      exact ⟨_, _, (met_idx f f' hn b).2, (met_idx f f' hn c).2, r⟩
theorem addAll_nil_mem {M : List Nat} {x : Nat} : x ∈ addAll [] M ↔ x ∈ M := by rw [addAll_mem]; simp
theorem getD_mem {M : List Nat} {i : Nat} (h : i < M.length) : M.getD i 0 ∈ M := by
  rw [List.getD_eq_getElem?_getD, List.getElem?_eq_getElem h]; exact List.getElem_mem h
theorem cls_lt {M : List Nat} {i : Nat} (h : i < M.length) : cls M i < (addAll [] M).length := List.idxOf_lt_length_of_mem (addAll_nil_mem.mpr (getD_mem h))
theorem cls_eq {M : List Nat} {i j : Nat} (hi : i < M.length) (hj : j < M.length) : cls M i = cls M j ↔ M.getD i 0 = M.getD j 0 :=
  ⟨fun e => idxOf_inj (addAll_nil_mem.mpr (getD_mem hi)) (addAll_nil_mem.mpr (getD_mem hj)) e, fun e => by unfold cls; rw [e]⟩
theorem cls_zero {M : List Nat} (h : 0 < M.length) : cls M 0 = 0 := by
  cases M with
  | nil => cases h
  | cons x M =>
    have e : (addAll [] (x :: M))[0]? = some x := by
      show (addAll (if x ∈ ([] : List Nat) then [] else [] ++ [x]) M)[0]? = some x
      rw [if_neg (by simp)]
      exact prefix_get (addAll_prefix M [x]) rfl
    obtain ⟨hl, e⟩ := List.getElem?_eq_some_iff.mp e
    show (addAll [] (x :: M)).idxOf x = 0
    have q := idx_at (addAll_nodup (ys := x :: M) (L := []) List.nodup_nil) hl
    rw [e] at q
    exact q
theorem cls_onto {M : List Nat} {c : Nat} (h : c < (addAll [] M).length) : ∃ i, i < M.length ∧ cls M i = c := by
  have hm : (addAll [] M)[c] ∈ M := addAll_nil_mem.mp (List.getElem_mem h)
  obtain ⟨i, hi⟩ := List.mem_iff_getElem?.mp hm
  have hl := (List.getElem?_eq_some_iff.mp hi).1
  refine ⟨i, hl, ?_⟩
  unfold cls
  rw [List.getD_eq_getElem?_getD, hi]
  exact idx_at (addAll_nodup (ys := M) (L := []) List.nodup_nil) h

/-- the classes of marks that go with the doors make rows that are good -/
theorem merged_ok {B T2 : Tab} {M : List Nat} {b : Nat} (g : Good B b) (x : Exch prs B b) (hM : M.length = b) (mg : Merged B M T2)
    (cong : ∀ k i j, i < b → j < b → M.getD i 0 = M.getD j 0 → M.getD (step B k i) 0 = M.getD (step B k j) 0) :
    Good T2 (addAll [] M).length ∧ Exch prs T2 (addAll [] M).length ∧ ∀ w, walk T2 0 w = cls M (walk B 0 w) := by
  have hstep : ∀ k i, i < b → step T2 k (cls M i) = cls M (step B k i) := fun k i hi => by
    cases e : B[k]? with
    | none =>
      have e2 : T2[k]? = none := List.getElem?_eq_none_iff.mpr (by have := List.getElem?_eq_none_iff.mp e; have := mg.1; omega)
      rw [step_none e, step_none e2]
    | some row =>
      have hk : k < T2.length := by have := (List.getElem?_eq_some_iff.mp e).1; have := mg.1; omega
      have e2 : T2[k]? = some T2[k] := List.getElem?_eq_getElem hk
      rw [step_some e, step_some e2]
      exact (mg.2 k row _ e e2).2 i (by omega)
  have ofRow : ∀ R ∈ T2, ∃ k, T2[k]? = some R ∧ ∃ row, B[k]? = some row := fun R hR => by
    obtain ⟨k, hk⟩ := List.mem_iff_getElem?.mp hR
    have hk' : k < B.length := by have := (List.getElem?_eq_some_iff.mp hk).1; have := mg.1; omega
    exact ⟨k, hk, _, List.getElem?_eq_getElem hk'⟩
  refine ⟨⟨?_, fun R hR => ?_, fun R hR c hc => ?_, fun R hR c hc => ?_⟩, fun q hq c hc => ?_, fun w => ?_⟩
  · exact Nat.lt_of_le_of_lt (Nat.zero_le _) (cls_lt (M := M) (i := 0) (by rw [hM]; exact g.pos))
  · obtain ⟨k, hk, row, hr⟩ := ofRow R hR
    exact (mg.2 k row R hr hk).1
  · obtain ⟨k, hk, row, hr⟩ := ofRow R hR
    obtain ⟨i, hi, rfl⟩ := cls_onto hc
    rw [(mg.2 k row R hr hk).2 i hi]
    exact cls_lt (by rw [hM]; exact g.ent row (List.mem_of_getElem? hr) i (by omega))
  · obtain ⟨k, hk, row, hr⟩ := ofRow R hR
    obtain ⟨i, hi, rfl⟩ := cls_onto hc
    have hi' : row.getD i 0 < b := g.ent row (List.mem_of_getElem? hr) i (by omega)
    rw [(mg.2 k row R hr hk).2 i hi, (mg.2 k row R hr hk).2 _ (by omega), g.inv row (List.mem_of_getElem? hr) i (by omega)]
  · obtain ⟨i, hi, rfl⟩ := cls_onto hc
    have hi' : i < b := by omega
    rw [hstep _ _ hi', hstep _ _ hi', hstep _ _ (g.step_lt hi'), hstep _ _ (g.step_lt hi'), x q hq i hi']
  · induction w using snoc_induction with
    | h0 => exact (cls_zero (by rw [hM]; exact g.pos)).symm
    | hs w k ih => rw [walk_snoc, ih, hstep _ _ (g.walk_lt w), walk_snoc]
/-- what | does: rows of the classes of the pairs, numbered -/
theorem join_ok (f : Fl n prs T m) (f' : Fl n prs T' m') (hn : 0 < n) {M : List Nat} {T2 : Tab} (hM : Marks (met T T') M) (mg : Merged (pairRows T T') M T2) :
    Good T2 (addAll [] M).length ∧ Exch prs T2 (addAll [] M).length ∧ ∀ u v, Rel T2 u v ↔ Join T T' u v := by
  obtain ⟨fb, rb⟩ := pair_fl f f' hn
  have ways : ∀ i, i < (met T T').length → ∃ w, walk (pairRows T T') 0 w = i := fun i hi => fb.reach i hi
  have iw := pair_walk f f' hn
  have conn : ∀ u v, M.getD (walk (pairRows T T') 0 u) 0 = M.getD (walk (pairRows T T') 0 v) 0 ↔ Join T T' u v := fun u v => by
    rw [hM.2 _ _ (fb.good.walk_lt u) (fb.good.walk_lt v), iw, iw]
    exact conn_join f f' hn u v
  have cong : ∀ k i j, i < (met T T').length → j < (met T T').length → M.getD i 0 = M.getD j 0 → M.getD (step (pairRows T T') k i) 0 = M.getD (step (pairRows T T') k j) 0 := by
    intro k i j hi hj e
    obtain ⟨u, rfl⟩ := ways i hi
    obtain ⟨v, rfl⟩ := ways j hj
    rw [← walk_snoc, ← walk_snoc]
    rw [conn] at e ⊢
    refine e.least (S := fun a b => Join T T' (a ++ [k]) (b ++ [k])) (fun a => .refl _) (fun a b c h h' => h.trans h') fun a b h => ?_
    refine .one ?_
    rcases h with h | h
    · left; unfold Rel at h ⊢; rw [walk_snoc, walk_snoc, h]
    · right; unfold Rel at h ⊢; rw [walk_snoc, walk_snoc, h]
  obtain ⟨g, x, hw⟩ := merged_ok fb.good fb.exch hM.1 mg cong
  refine ⟨g, x, fun u v => ?_⟩
  have hu : walk (pairRows T T') 0 u < M.length := by rw [hM.1]; exact fb.good.walk_lt u
  have hv : walk (pairRows T T') 0 v < M.length := by rw [hM.1]; exact fb.good.walk_lt v
  unfold Rel
  rw [hw, hw, cls_eq hu hv]
  exact conn u v
end

/-! ### what the law asks -/
section
variable {n : Nat} {prs : List (Nat × Nat)}
/-- J is the & of T and T', of any numbers of places -/
structure IsMeet (n : Nat) (prs : List (Nat × Nat)) (T T' J : Tab) (j : Nat) : Prop where
  fl : Fl n prs J j
  rel : ∀ u v, Rel J u v ↔ Rel T u v ∧ Rel T' u v
structure IsJoin (n : Nat) (prs : List (Nat × Nat)) (T T' J : Tab) (j : Nat) : Prop where
  fl : Fl n prs J j
  rel : ∀ u v, Rel J u v ↔ Join T T' u v
def Le (T T' : Tab) : Prop := ∀ u v, Rel T u v → Rel T' u v
theorem Join.inl {T T' : Tab} {u v : List Nat} (h : Rel T u v) : Join T T' u v := .one (.inl h)
theorem Join.inr {T T' : Tab} {u v : List Nat} (h : Rel T' u v) : Join T T' u v := .one (.inr h)
theorem Rel.refl (T : Tab) (u : List Nat) : Rel T u u := Eq.refl _
theorem Rel.trans {T : Tab} {u v w : List Nat} (h : Rel T u v) (h' : Rel T v w) : Rel T u w := Eq.trans h h'
theorem Join.le {T T' S : Tab} (h : Le T S) (h' : Le T' S) {u v : List Nat} (j : Join T T' u v) : Rel S u v :=
  Cl.least (S := Rel S) (Rel.refl S) (fun _ _ _ => Rel.trans) (fun a b r => r.elim (h a b) (h' a b)) j
theorem Join.symmArg {T T' : Tab} {u v : List Nat} (j : Join T T' u v) : Join T' T u v :=
  Cl.least (S := Join T' T) (fun a => .refl a) (fun _ _ _ a b => Cl.trans a b) (fun _ _ r => .one r.symm) j
end
end Cw

/-! ## CwMarks -/
/-! The marks of pairs that hang together. -/
namespace Cw
def keyOf (s : Nat) (p : Nat × Nat) : Nat := if s = 0 then p.1 else p.2
def kAt (s : Nat) (P : List (Nat × Nat)) (i : Nat) : Nat := keyOf s (P.getD i (0, 0))
/-- one turn: each mark becomes the least of those whose pairs have this side in common -/
def IsLow (P : List (Nat × Nat)) (s : Nat) (M M' : List Nat) : Prop := M'.length = P.length ∧ ∀ i, i < P.length → (∃ j, j < P.length ∧ kAt s P j = kAt s P i ∧ M'.getD i 0 = M.getD j 0) ∧ ∀ j, j < P.length → kAt s P j = kAt s P i → M'.getD i 0 ≤ M.getD j 0
def MInv (P : List (Nat × Nat)) (M : List Nat) : Prop := M.length = P.length ∧ ∀ i, i < P.length → M.getD i 0 < P.length ∧ Conn P i (M.getD i 0)
section
variable {P : List (Nat × Nat)} {M M' : List Nat} {s : Nat}
theorem share_of {i j : Nat} (hi : i < P.length) (hj : j < P.length) (e : kAt s P j = kAt s P i) : Share P i j := by
  refine ⟨P[i], P[j], List.getElem?_eq_getElem hi, List.getElem?_eq_getElem hj, ?_⟩
  unfold kAt keyOf at e
  rw [List.getD_eq_getElem?_getD, List.getD_eq_getElem?_getD, List.getElem?_eq_getElem hi, List.getElem?_eq_getElem hj] at e
  simp only [Option.getD_some] at e
  by_cases hs : s = 0
  · rw [if_pos hs, if_pos hs] at e; exact .inl e.symm
  · rw [if_neg hs, if_neg hs] at e; exact .inr e.symm
theorem MInv.low (h : MInv P M) (l : IsLow P s M M') : MInv P M' := by
  refine ⟨l.1, fun i hi => ?_⟩
  obtain ⟨⟨j, hj, e1, e2⟩, _⟩ := l.2 i hi
  rw [e2]
  exact ⟨(h.2 j hj).1, (Cl.one (share_of hi hj e1)).trans (h.2 j hj).2⟩
theorem low_le (l : IsLow P s M M') {i : Nat} (hi : i < P.length) : M'.getD i 0 ≤ M.getD i 0 := (l.2 i hi).2 i hi rfl
theorem sum_le : ∀ {A B : List Nat}, A.length = B.length → (∀ i, i < A.length → A.getD i 0 ≤ B.getD i 0) → A.sum ≤ B.sum ∧ (A ≠ B → A.sum < B.sum)
  | [], [], _, _ => ⟨Nat.le_refl _, fun h => absurd rfl h⟩
  | [], _ :: _, h, _ => by simp at h
  | _ :: _, [], h, _ => by simp at h
  | a :: A, b :: B, h, hle => by
    have ih := sum_le (A := A) (B := B) (by simpa using h) fun i hi => by
      have := hle (i + 1) (by simpa using hi)
      simpa using this
    have h0 : a ≤ b := by have := hle 0 (by simp); simpa using this
    refine ⟨by simp only [List.sum_cons]; omega, fun hne => ?_⟩
    simp only [List.sum_cons]
    by_cases e : a = b
    · have : A ≠ B := fun q => hne (by rw [e, q])
      have := ih.2 this
      omega
    · omega
theorem low_sum (hM : M.length = P.length) (l : IsLow P s M M') : M'.sum ≤ M.sum ∧ (M' ≠ M → M'.sum < M.sum) :=
  sum_le (l.1.trans hM.symm) fun i hi => low_le l (by rw [← l.1]; exact hi)
/-- when both sides leave the marks as they are -/
theorem marks_done (h : MInv P M) (l0 : IsLow P 0 M M) (l1 : IsLow P 1 M M) : Marks P M := by
  have share : ∀ i j, Share P i j → M.getD i 0 = M.getD j 0 := by
    rintro i j ⟨p, q, e1, e2, e3⟩
    have hi := (List.getElem?_eq_some_iff.mp e1).1
    have hj := (List.getElem?_eq_some_iff.mp e2).1
    have gi : P.getD i (0, 0) = p := by rw [List.getD_eq_getElem?_getD, e1]; rfl
    have gj : P.getD j (0, 0) = q := by rw [List.getD_eq_getElem?_getD, e2]; rfl
    rcases e3 with e | e
    · have k1 : kAt 0 P j = kAt 0 P i := by unfold kAt keyOf; rw [gi, gj, if_pos rfl, if_pos rfl, e]
      have a := (l0.2 i hi).2 j hj k1
      have b := (l0.2 j hj).2 i hi k1.symm
      omega
    · have k1 : kAt 1 P j = kAt 1 P i := by unfold kAt keyOf; rw [gi, gj, if_neg (by decide), if_neg (by decide), e]
      have a := (l1.2 i hi).2 j hj k1
      have b := (l1.2 j hj).2 i hi k1.symm
      omega
  refine ⟨h.1, fun i j hi hj => ⟨fun e => ?_, fun c => ?_⟩⟩
  · have a := (h.2 i hi).2
    have b := (h.2 j hj).2
    rw [← e] at b
    exact a.trans (b.symm Share.symm)
  · exact Cl.least (S := fun a b => M.getD a 0 = M.getD b 0) (fun _ => rfl) (fun _ _ _ => Eq.trans) share c
theorem minv_start (P : List (Nat × Nat)) : MInv P (List.range P.length) := by
  refine ⟨by simp, fun i hi => ?_⟩
  have e : (List.range P.length).getD i 0 = i := by rw [List.getD_eq_getElem?_getD, List.getElem?_range hi]; rfl
  rw [e]
  exact ⟨hi, .refl _⟩
end
section
variable {n m m' : Nat} {prs : List (Nat × Nat)} {T T' : Tab}
/-- marks go with the doors -/
theorem join_cong (f : Fl n prs T m) (f' : Fl n prs T' m') (hn : 0 < n) {M : List Nat} (hM : Marks (met T T') M) (k i j : Nat) (hi : i < (met T T').length) (hj : j < (met T T').length) (e : M.getD i 0 = M.getD j 0) :
    M.getD (step (pairRows T T') k i) 0 = M.getD (step (pairRows T T') k j) 0 := by
  obtain ⟨fb, rb⟩ := pair_fl f f' hn
  have iw := pair_walk f f' hn
  have conn : ∀ u v, M.getD (walk (pairRows T T') 0 u) 0 = M.getD (walk (pairRows T T') 0 v) 0 ↔ Join T T' u v := fun u v => by
    rw [hM.2 _ _ (fb.good.walk_lt u) (fb.good.walk_lt v), iw, iw]
    exact conn_join f f' hn u v
  obtain ⟨u, rfl⟩ := fb.reach i hi
  obtain ⟨v, rfl⟩ := fb.reach j hj
  rw [← walk_snoc, ← walk_snoc]
  rw [conn] at e ⊢
  refine e.least (S := fun a b => Join T T' (a ++ [k]) (b ++ [k])) (fun a => .refl _) (fun a b c h h' => h.trans h') fun a b h => ?_
  refine .one ?_
  rcases h with h | h
  · left; unfold Rel at h ⊢; rw [walk_snoc, walk_snoc, h]
  · right; unfold Rel at h ⊢; rw [walk_snoc, walk_snoc, h]
end
end Cw

/-! ## CwRules -/
/-! Own operators of plain instances: ==, <=, !=, &, |, len. -/
namespace CwR
open PySem PySem.Spec PyProof.Rows L2
section
variable {X : Cx} {CX : CXT} {pins : List (Addr × Obj)} {σ : L2.St} {H : Hp} {s : Shared} {a C dx g : Addr} {fs : List (Str × V)} {k : Nat} {fd : FuncData} {ps : List Str} {sp : Sp} {E : XK}
theorem inst_of (I : Inv X pins σ H s) (e : H a = some (.ins C dx fs)) : ∃ od, PySem.W.InstAt s.heap a (PySem.W.instObj C dx) C (some od) := by
  obtain ⟨mA, O, _⟩ := ins_get I.hok e
  obtain ⟨od, J, _⟩ := O.look
  exact ⟨od, J⟩
theorem cmpBack {P : Value → Shared → Prop} {z : V} {v : Value} {s' : Shared} (r : RelV z v) (h : P v s') : PySem.W.CmpBack P v s' := by
  cases z with
  | non => cases (show v = Value.none from r); exact h
  | bl b => cases (show v = Value.bool b from r); exact h
  | int i => obtain ⟨t, e⟩ := (show ∃ t, v = Value.int i t from r); cases e; exact h
  | str x => obtain ⟨t, e⟩ := (show ∃ t, v = Value.str x t from r); cases e; exact h
  | byt b => obtain ⟨t, e⟩ := (show ∃ t, v = Value.bytes b t from r); cases e; exact h
  | flt b => obtain ⟨t, e⟩ := (show ∃ t, v = Value.float b t from r); cases e; exact h
  | ref a => cases (show v = Value.ref a from r); exact h
  | ty n => cases (show v = Value.type n from r); exact h
/-- two instances of the class at C, and the def's promise of them -/
def rOwn (C : Addr) (sp : Sp) (E : XK) : R2 := fun x y H Q => ∃ a dx fs b dy gs, x = .ref a ∧ y = .ref b ∧ H a = some (.ins C dx fs) ∧ H b = some (.ins C dy gs) ∧ sp [x, y] H Q E
theorem run2 {Q : VK} {a b : Addr} (F : FnOk X.prog X.w X.K X.mg X.base CX k g fd ps sp) (hr : Room k X.A) (hb : Binds X.K fd ps []) (hx : Passes CX X E) (I : Inv X pins σ H s) (q : sp [.ref a, .ref b] H Q E) :
    wpAny (model X.prog X.w) X.A (call (.ref g) [.ref a, .ref b]) (EP X pins σ Q) X.xe s :=
  run_fn (us := [.ref a, .ref b]) (vs := [.ref a, .ref b]) F hr hb .nil hx I (.cons rfl (.cons rfl .nil)) q
theorem op_cmpOwn {op : CmpOp} (hop : ∀ a b, compareOp op a b = richCompare op a b) (hn : PySem.W.notFirst X.K C (.ref C) = true) (hs : PySem.W.findIn X.K (.ref C) (cmpInfo op).2.1 = some (some (.ref g)))
    (hf : PySem.W.isFn X.K (.ref g) = true) (F : FnOk X.prog X.w X.K X.mg X.base CX k g fd ps sp) (hr : Room k X.A) (hb : Binds X.K fd ps []) (hx : Passes CX X E) : OpR X (compareOp op) (rOwn C sp E) := by
  intro pins s σ H x y v u Q I rx ry h
  obtain ⟨a, dx, fs, b, dy, gs, rfl, rfl, ha, hb', q⟩ := h
  cases (show v = Value.ref a from rx)
  cases (show u = Value.ref b from ry)
  obtain ⟨od, J⟩ := inst_of I ha
  obtain ⟨od', J'⟩ := inst_of I hb'
  obtain ⟨m, hF⟩ := I.fr
  rw [hop]
  refine PySem.W.cmp_K (op := op) (tb := .ref C) hr.units0 hF I.ok.mod.kin J J'.type hn hs hf ?_
  refine wpAny_mono (run2 F hr hb hx I q) (fun w s' z => ?_) fun _ _ x => x
  obtain ⟨z', H', I', rz, qz⟩ := z
  exact cmpBack rz ⟨z', H', I', rz, qz⟩
theorem op_binOwn {op : Operator} (hc : PySem.W.selfFirst X.K C = true) (hs : PySem.W.findIn X.K (.ref C) (PySem.dunder op.info.2) = some (some (.ref g)))
    (hf : PySem.W.isFn X.K (.ref g) = true) (F : FnOk X.prog X.w X.K X.mg X.base CX k g fd ps sp) (hr : Room k X.A) (hb : Binds X.K fd ps []) (hx : Passes CX X E) : OpR X (binaryOp op) (rOwn C sp E) := by
  intro pins s σ H x y v u Q I rx ry h
  obtain ⟨a, dx, fs, b, dy, gs, rfl, rfl, ha, hb', q⟩ := h
  cases (show v = Value.ref a from rx)
  cases (show u = Value.ref b from ry)
  obtain ⟨od, J⟩ := inst_of I ha
  obtain ⟨od', J'⟩ := inst_of I hb'
  obtain ⟨m, hF⟩ := I.fr
  refine PySem.W.binop_K (op := op) hF I.ok.mod.kin J J'.type hc hs hf ?_
  refine wpAny_mono (run2 F hr hb hx I q) (fun w s' z => ?_) fun _ _ x => x
  obtain ⟨z', H', I', rz, qz⟩ := z
  exact cmpBack rz ⟨z', H', I', rz, qz⟩
/-- len of an instance whose class has a def for it -/
def rLenOwn (C : Addr) (sp : Sp) (E : XK) : List V → Hp → VK → Prop := fun xs H Q => ∃ a dx fs, xs = [.ref a] ∧ H a = some (.ins C dx fs) ∧ sp [.ref a] H (fun z H' => ∃ n : Int, z = .int n ∧ 0 ≤ n ∧ n < 2 ^ 63 ∧ Q z H') E
theorem run_in1 {Q : VK} {us : List Value} {vs : List V} (F : FnOk X.prog X.w X.K X.mg X.base CX k g fd ps sp) (hr : Room (k + 1) X.A) (hb : Binds X.K fd ps []) (hx : Passes CX X E) (I : Inv X pins σ H s) (r : Vals vs us) (h : sp vs H Q E) :
    wpAny (model X.prog X.w) X.A.in1 (call (.ref g) us) (EP X pins σ Q) X.xe s := by
  have hl : (us ++ []).length = ps.length := by rw [List.append_nil, ← r.length]; exact F.len _ _ _ _ h
  have hbt := hb s us I.kIn hl
  rw [List.append_nil] at hbt
  refine wpAny_call (codeAny_mono (F.run X.A.in1 X.stack s H ⟨us, []⟩ us vs Q E hr.in1 I.env0.in1 hbt r h) fun r s' hq => ?_)
  cases r with
  | error e => exact hx pins σ H s e s' I hq
  | ok fl =>
    cases fl with
    | ret u => exact I.after hq
    | next => exact False.elim hq
    | brk => exact False.elim hq
    | cont => exact False.elim hq
theorem call_lenOwn (hs : PySem.W.findIn X.K (.ref C) "__len__" = some (some (.ref g))) (hf : PySem.W.isFn X.K (.ref g) = true) (F : FnOk X.prog X.w X.K X.mg X.base CX k g fd ps sp) (hr : Room (k + 1) X.A) (hb : Binds X.K fd ps []) (hx : Passes CX X E) :
    CallR X (.builtin "len") (rLenOwn C sp E) := by
  intro pins s σ H xs us Q I r h
  obtain ⟨a, dx, fs, rfl, ha, q⟩ := h
  obtain ⟨u, rfl, ru⟩ : ∃ u, us = [u] ∧ RelV (.ref a) u := by
    cases r with
    | cons p q => cases q; exact ⟨_, rfl, p⟩
  cases (show u = Value.ref a from ru)
  obtain ⟨od, J⟩ := inst_of I ha
  obtain ⟨m, hF⟩ := I.fr
  refine PySem.W.len_K hF I.ok.mod.kin J hs hf (wpAny_mono (run_in1 (vs := [V.ref a]) F hr hb hx I (.cons rfl .nil) q) (fun w s' z => ?_) fun _ _ x => x)
  obtain ⟨z', H', I', rz, n, en, h0, h1, qz⟩ := z
  subst en
  obtain ⟨t, e⟩ := (show ∃ t, w = Value.int n t from rz)
  cases e
  exact ⟨⟨h0, h1⟩, .int n, H', I'.tok _, ⟨_, rfl⟩, qz⟩
end

/-! ### != by the class's own == -/
section
variable {prog : Program} {w : World} {A : Around} {E : Value → Shared → Prop} {s : Shared} {K : PySem.W.Frag} {x y C L f : Addr} {h₀ : Heap} {m : Str → Option Value} {ox oy : Obj} {od od' : Option Obj}
theorem boundB_K {M : Model} {id : String} {name : Str} {args : List Value} {Q : Option Value → Shared → Prop} (X : K.In s.heap) (I : PySem.W.InstAt s.heap x ox C od) (hs : PySem.W.findIn K (.ref C) name = some (some (.builtin id)))
    (hb : bindSpecial (.builtin id) (.ref x) = pure (.builtin id, [.ref x])) (h : wpAny M A (call (.builtin id) (.ref x :: args)) (fun v => Q (some v)) E s) : wpAny M A (callSpecialIfBound? (.ref x) name args) Q E s := by
  simp only [callSpecialIfBound?, bindSpecialIfBound?]
  refine wpAny_holding (wpAny_bind (wpAny_bind (wpAny_bind (I.type.here ((PySem.W.looks_findIn X hs).here ?_)))))
  simp only [hb]
  refine wpAny_bind (wpAny_askSetting (wpAny_ite ?_))
  have fin : wpAny M A (call (.builtin id) ([.ref x] ++ args) >>= fun v => pure (some v)) Q E s := wpAny_bind (wpAny_mono h (fun v s' h' => wpAny_pure h') fun _ _ h' => h')
  split
  · exact wpAny_bind (wpAny_pure (wpAny_pure fin))
  · exact wpAny_tryCatch (wpAny_bind (wpAny_pure (wpAny_pure fin)))
theorem objNe_K {Q : Fin → Shared → Prop} (X : K.In s.heap) (I : PySem.W.InstAt s.heap x ox C od) (hs : PySem.W.findIn K (.ref C) "__eq__" = some (some (.ref f))) (hf : PySem.W.isFn K (.ref f) = true) (hu : A.units < cLine)
    (hcall : wpAny (model prog w) A (call (.ref f) [.ref x, .ref y]) (fun v s' => ∃ b, v = .bool b ∧ Q (.done (.ret (.bool (!b)))) s') E s) :
    wpAny (model prog w) A (Builtin.«object.__ne__» ⟨[.ref x, .ref y], []⟩) Q E s := by
  have key : wpAny (model prog w) A (callSpecialIfBound? (.ref x) (Str.ofString "__eq__") [.ref y]) (fun r s' => ∃ b, r = some (.bool b) ∧ Q (.done (.ret (.bool (!b)))) s') E s :=
    PySem.W.ifBound_K X I hs hf (wpAny_mono hcall (fun v s' ⟨b, e, q⟩ => ⟨b, by rw [e], q⟩) fun _ _ e => e)
  obtain ⟨hh, g, d, t, os⟩ := s
  unfold Builtin.«object.__ne__»
  repeat (first
    | with_reducible refine wpAny_cRoomFor hu ?_
    | (refine wpAny_bind (m := callSpecialIfBound? (.ref x) (Str.ofString "__eq__") [.ref y])
        (wpAny_mono key (fun r s' hr => by
          obtain ⟨b, rfl, hq⟩ := hr
          repeat (first | exact hq | exact wpAny_pure hq | exact wpAny_truthy_bool hq | (refine wpAny_bind (m := truthy (.bool _)) (wpAny_truthy_bool ?_)) | wp_step)) fun _ _ e => e))
    | wp_step)
theorem ne_K {Q : Value → Shared → Prop} (hu : A.units + 1 < cLine) (X : K.In s.heap) (I : PySem.W.InstAt s.heap x ox C od) (J : PySem.W.InstAt s.heap y oy C od') (hn : PySem.W.findIn K (.ref C) "__ne__" = some (some (.builtin "object.__ne__")))
    (hs : PySem.W.findIn K (.ref C) "__eq__" = some (some (.ref f))) (hf : PySem.W.isFn K (.ref f) = true) (hob : PySem.W.mroIn K C (.type "object") = some true)
    (hcall : wpAny (model prog w) A.in1 (call (.ref f) [.ref x, .ref y]) (fun v s' => ∃ b, v = .bool b ∧ Q (.bool (!b)) s') E s) : wpAny (model prog w) A (compareOp .NotEq (.ref x) (.ref y)) Q E s := by
  have sub : PySem.W.Looks (model prog w) s.heap (isInstance (.ref x) (.type "object")) true := I.type.andThen (PySem.W.looks_mroIn X hob)
  have try1 : wpAny (model prog w) A (tryCompare (.ref x) "__ne__" (.ref y)) (fun r s' => ∃ v, r = some v ∧ Q v s') E s := by
    simp only [tryCompare]
    refine wpAny_bind (boundB_K X I hn (by rfl) (wpAny_call (codeAny_call_builtin (by decide +kernel) PySem.F.cmpEntry_ne
      (PySem.W.check_slot PySem.F.cmpKind_ne PySem.F.cmpSplit_ne sub (PySem.F.cmpArgs_ne _ _) (objNe_K (A := A.in1) X I hs hf hu (wpAny_mono hcall (fun v s' hv => ?_) fun _ _ e => e))))))
    obtain ⟨b, rfl, hq⟩ := hv
    refine ⟨b, rfl, ?_⟩
    first | exact wpAny_pure ⟨_, rfl, hq⟩ | exact wpAny_pure (wpAny_pure ⟨_, rfl, hq⟩)
  show wpAny (model prog w) A (richCompare .NotEq (.ref x) (.ref y)) Q E s
  unfold richCompare
  simp only [oneThing_ref]
  refine wpAny_holding (wpAny_bind (wpAny_cRoomFor (Nat.lt_of_succ_lt hu) ?_))
  rw [cmpInfo_NotEq]
  dsimp only
  refine wpAny_bind (I.type.here (wpAny_bind (J.type.here ?_)))
  rw [show (Value.ref C != Value.ref C) = false from by simp]
  simp only [Bool.false_eq_true, if_false]
  refine wpAny_bind (wpAny_pure ?_)
  simp only [Bool.false_eq_true, if_false]
  refine wpAny_bind (wpAny_mono try1 (fun r s' hr => ?_) fun _ _ e => e)
  obtain ⟨v, rfl, hq⟩ := hr
  first | exact wpAny_pure hq | exact wpAny_pure (wpAny_pure hq)
end
section
variable {X : Cx} {CX : CXT} {C g : Addr} {k : Nat} {fd : FuncData} {ps : List Str} {sp : Sp} {E : XK}
/-- x != y of two instances of the class at C, by its own == -/
def rNeOwn (C : Addr) (sp : Sp) (E : XK) : R2 := fun x y H Q => ∃ a dx fs b dy gs, x = .ref a ∧ y = .ref b ∧ H a = some (.ins C dx fs) ∧ H b = some (.ins C dy gs) ∧ sp [x, y] H (fun z H' => ∃ c, z = .bl c ∧ Q (.bl (!c)) H') E
theorem op_neOwn (hn : PySem.W.findIn X.K (.ref C) "__ne__" = some (some (.builtin "object.__ne__"))) (hs : PySem.W.findIn X.K (.ref C) "__eq__" = some (some (.ref g)))
    (hf : PySem.W.isFn X.K (.ref g) = true) (hob : PySem.W.mroIn X.K C (.type "object") = some true) (F : FnOk X.prog X.w X.K X.mg X.base CX k g fd ps sp) (hr : Room (k + 1) X.A) (hb : Binds X.K fd ps []) (hx : Passes CX X E) : OpR X (compareOp .NotEq) (rNeOwn C sp E) := by
  intro pins s σ H x y v u Q I rx ry h
  obtain ⟨a, dx, fs, b, dy, gs, rfl, rfl, ha, hb', q⟩ := h
  cases (show v = Value.ref a from rx)
  cases (show u = Value.ref b from ry)
  obtain ⟨od, J⟩ := inst_of I ha
  obtain ⟨od', J'⟩ := inst_of I hb'
  refine ne_K (hu_of hr) I.kIn J J' hn hs hf hob (wpAny_mono (run_in1 (vs := [V.ref a, V.ref b]) F hr hb hx I (.cons rfl (.cons rfl .nil)) q) (fun w s' z => ?_) fun _ _ x => x)
  obtain ⟨z', H', I', rz, c, ec, qz⟩ := z
  subst ec
  exact ⟨c, rz, .bl (!c), H', I', rfl, qz⟩
end
end CwR

/-! ## CwSet -/
/-! len(set(t)) of a text whose signs differ and are plain letters. -/
namespace CwR
open PySem PySem.Spec PyProof.Rows L2 PySem.Froz
section
variable {P : Program} {w : World} {A : Around} {E : Value → Shared → Prop} {s : Shared}
theorem runD_ok : ∀ (cs : List Nat) (tk : Tok) (D : SD) (l : List Str), TxOk P w D l → ∃ l', TxOk P w (runD w cs tk D) l' ∧ l'.length = l.length + cs.length
  | [], tk, D, l, F => ⟨l, F, rfl⟩
  | c :: r, tk, D, l, F => by
    obtain ⟨l', F', e⟩ := runD_ok r (tk + 2) _ _ (add_ok (k := sing c) tk F)
    exact ⟨l', F', by rw [e]; simp only [List.length_cons]; omega⟩
theorem call_set_text {x : Str} {u : Tok} {Q : Value → Shared → Prop} (hh : A.handled = none) (ha : x.cps.all (· < 128) = true) (hn : x.cps.toList.Nodup) (hb : x.cps.toList.length < scanBound)
    (h : ∀ (h' : Heap) (tk : Nat) (o : Obj) (es : Array (Int × Value)) (ep : Nat) (t : SetTable), h'.get? s.heap.objs.size = some o → o.ExactSet → o.data = .set es ep t → es.size = x.cps.toList.length → t.fits es.size = true →
      (∀ b o, s.heap.get? b = some o → h'.get? b = some o) → Q (.ref s.heap.objs.size) { s with heap := h', toks := tk }) : wpAny (model P w) A (call (.type "set") [.str x u]) Q E s := by
  obtain ⟨c, tl, hmro⟩ := F.called_set.mro
  have hmade := F.called_set.made
  have hsub := F.called_set.sub
  refine wpAny_call (codeAny_of_tree ?_)
  show wpAny _ _ (callAny (.type "set") _) _ _ _
  refine wpAny_pure ⟨Code.quiet_builtin _ (by decide +kernel), codeAny_builtin F.entry_type_call ?_⟩
  rw [Around.under_plain (weight_type_call_type "set" [.str x u] []) rfl]
  have h1 := F.called_set.notType
  have h2 := F.called_set.canCreate
  have hct := F.typeCall_set_1 (.str x u)
  repeat (any_goals (first | assumption | wp_step))
  generalize hN0 : ({ cls := .type "set", dict := none, data := .set #[] 0 (.fresh 0 0 (!w.params.followText "set-order")) } : Obj) = N0
  refine codeAny_mono (code_set_led1 (.str x u) (E := E) (Q₁ := fun obj s₁ => obj = .ref s.heap.objs.size ∧ s₁ = { s with heap := s.heap.push N0 }) ⟨rfl, by rw [hN0]⟩) fun r s₁ hr => ?_
  cases r with
  | error e => exact hr
  | ok fl =>
    cases fl with
    | ret obj =>
      obtain ⟨rfl, rfl⟩ := hr
      have hS : (s.heap.push N0).get? s.heap.objs.size = some N0 := Heap.get?_push_size _ (by rw [← hN0]; rfl)
      have hT : Shared.TypeIs { s with heap := s.heap.push N0 } (.ref s.heap.objs.size) "set" := ⟨_, hS, by rw [← hN0]⟩
      have hli := F.called_set.init.lookup
      have hbi := F.called_set.init.bind (.ref s.heap.objs.size)
      repeat (any_goals (first | assumption | wp_step))
      refine codeAny_mono (codeAny_call_builtin (R := wants (fun r s₂ => r = .none ∧ ∃ h' tk o es ep t, s₂ = { s with heap := h', toks := tk } ∧ h'.get? s.heap.objs.size = some o ∧ o.ExactSet ∧ o.data = .set es ep t ∧ es.size = x.cps.toList.length ∧ t.fits es.size = true ∧
          (∀ b o, s.heap.get? b = some o → h'.get? b = some o)) E) F.called_set.init.plain F.entry_set_init (check_set_init_1 hT ?_)) fun r₂ s₂ hr₂ => ?_
      · subst hN0
        have hsls : isSubtype (.type "str") (.type "set") = pure false := by rw [isSubtype_type]; kernel_rfl
        have hslf : isSubtype (.type "str") (.type "frozenset") = pure false := by rw [isSubtype_type]; kernel_rfl
        have hne : (Value.type "str" == Value.type "dict") = false := by decide
        unfold Builtin.«set.__init__» noKeywords Builtin.Frozenset.updateFrom
        generalize hPI : pyIter = PI
        wp_walk
        subst hPI
        refine wpAny_pyIter_ascii ha ?_
        refine wpAny_bind (wpAny_runValue ?_)
        have hh3 : A.in1.in1.handled = none := by simp [hh]
        have hz1 : (s.heap.push { cls := .type "set", dict := none, data := .set #[] 0 (.fresh 0 0 (!w.params.followText "set-order")) }).objs.size = s.heap.objs.size + 1 := Heap.size_push ..
        have hne0 : s.heap.objs.size ≠ (s.heap.push { cls := .type "set", dict := none, data := .set #[] 0 (.fresh 0 0 (!w.params.followText "set-order")) }).objs.size := by
          rw [hz1]; exact Nat.ne_of_lt (Nat.lt_succ_self _)
        have F0 : TxOk P w (#[], 0, .fresh 0 0 (!w.params.followText "set-order")) [] := TxOk.nil (by rfl)
        generalize hit : (s.heap.push { cls := .type "set", dict := none, data := .set #[] 0 (.fresh 0 0 (!w.params.followText "set-order")) }).objs.size = it at hne0 ⊢
        have get1 : ((s.heap.push { cls := .type "set", dict := none, data := .set #[] 0 (.fresh 0 0 (!w.params.followText "set-order")) }).push (itObj x u 0)).get? s.heap.objs.size = some (sObj "set" (#[], 0, .fresh 0 0 (!w.params.followText "set-order"))) := Heap.get?_push_of_some _ hS
        have get2 : ((s.heap.push { cls := .type "set", dict := none, data := .set #[] 0 (.fresh 0 0 (!w.params.followText "set-order")) }).push (itObj x u 0)).get? it = some (itObj x u 0) := by
          rw [← hit]; exact Heap.get?_push_size _ rfl
        obtain ⟨l', F1, el⟩ := runD_ok (P := P) (w := w) x.cps.toList s.toks _ [] F0
        refine code_update (a := s.heap.objs.size) (it := it) (T := "set") (x := x) (u := u) hne0 hh3 x.cps.toList 0 (#[], 0, .fresh 0 0 (!w.params.followText "set-order")) [] { s with heap := (s.heap.push { cls := .type "set", dict := none, data := .set #[] 0 (.fresh 0 0 (!w.params.followText "set-order")) }).push (itObj x u 0) } rfl get1 get2 F0 (by simp) hn (by simpa using hb) ?_
        show wpAny _ _ _ _ _ _
        refine wpAny_pure ?_
        show wpAny _ _ (ret Value.none) _ _ _
        generalize runD w x.cps.toList s.toks (#[], 0, .fresh 0 0 (!w.params.followText "set-order")) = X1 at F1 ⊢
        refine wpAny_pure ⟨rfl, _, _, sObj "set" X1, X1.1, X1.2.1, X1.2.2, rfl, ?_, ⟨rfl, rfl, rfl⟩, rfl, ?_, F1.fit, fun b o e => ?_⟩
        · refine Heap.get?_push_of_some _ (Heap.get?_push_of_some _ ?_)
          exact PySem.Heap.get?_update_of_ne _ (Ne.symm hne0) (get_upd _ get1 rfl)
        · rw [F1.sz, el]; simp
        · have hb0 : b < s.heap.objs.size := Heap.lt_size e
          have hb1 : b ≠ s.heap.objs.size := Nat.ne_of_lt hb0
          have hb2 : b ≠ it := by rw [← hit, hz1]; exact Nat.ne_of_lt (Nat.lt_succ_of_lt hb0)
          refine Heap.get?_push_of_some _ (Heap.get?_push_of_some _ ?_)
          exact PySem.Heap.get?_update_of_ne _ (Ne.symm hb2) (PySem.Heap.get?_update_of_ne _ (Ne.symm hb1) (Heap.get?_push_of_some _ (Heap.get?_push_of_some _ e)))
      · cases r₂ with
        | error e => exact hr₂
        | ok fl₂ =>
          cases fl₂ with
          | ret r =>
            obtain ⟨rfl, h', tk, o, es, ep, t, rfl, a1, a2, a3, a4, a5, a6⟩ := hr₂
            repeat (any_goals (first | assumption | wp_step))
            exact h _ _ _ _ _ _ a1 a2 a3 a4 a5 a6
          | _ => exact hr₂.elim
    | _ => exact hr.elim
end
/-- len(set(t)), t a text of plain signs, no two alike -/
def tLenSetT (ta : TE) : TE := fun σ H Q => ta σ H fun x H1 => ∃ z : Str, x = .str z ∧ (z.cps.all (· < 128)) = true ∧ z.cps.toList.Nodup ∧ z.cps.toList.length ≤ 4000 ∧ Q (.int (z.cps.toList.length : Nat)) H1
theorem pe_lenSetT {X : Cx} {a : Expr} {ta : TE} {p p2 q pos : Pos} (hg : Gl X "len") (hm : X.mg "len" = none) (hg2 : Gl X "set") (hm2 : X.mg "set" = none) (ha : PE X a ta) (hc : X.calm = true := by rfl)
    (na : starEach [a] X.env = (false, eval a X.env) :: starEach [] X.env := by rfl) : PE X (.Call (.Name "len" p) [.Call (.Name "set" p2) [a] [] q] [] pos) (tLenSetT ta) := by
  refine ⟨fun pins s σ H Q I h => ?_⟩
  refine Call_ (ld_blt I hg hm boot_len ?_)
  refine PyProof.Rows.callWith_builtin1 (PyProof.Rows.args_cons ?_ rfl) rfl rfl
  refine Call_ (ld_blt I hg2 hm2 boot_set ?_)
  refine PyProof.Rows.callWith_type1 (PyProof.Rows.args_cons (thn (ha.run pins s σ H _ I h) fun v s1 ⟨x, H1, I1, r1, q1⟩ => PyProof.Rows.args_nil ?_) na) na rfl
  obtain ⟨z, rfl, hz, hnd, hl, q1⟩ := q1
  obtain ⟨u, rfl⟩ := (show ∃ u, v = Value.str z u from r1)
  refine call_set_text (I1.ok.hd hc) hz hnd (by unfold scanBound; omega) fun h' tk o es ep t ho hex hd hs hf hk => ?_
  refine PyProof.Rows.args_nil ?_
  have I2 : Inv X pins σ H1 { s1 with heap := h', toks := tk } := I1.kept hk
  exact call_len_set ho hex hd hf (by rw [hs] <;> omega) ⟨.int (z.cps.toList.length : Nat), H1, I2.tok _, ⟨_, by rw [hs]⟩, q1⟩
end CwR

/-! ## CwIter -/
/-! enumerate of a tuple; zip of a text and a tuple. -/
namespace CwR
open PySem PySem.Spec PyProof.Rows L2

section
theorem meets_enumerate_one {v : Value} {o : Obj} {H : Heap → Prop} (B : Begins v o H) :
    Meets (Builtin.«enumerate.__new__» ⟨[.type "enumerate", v], []⟩) (fun _ R s => H s.heap ∧
      R (.ok (.ret (.ref (s.heap.push o).objs.size))) { s with heap := (s.heap.push o).push { cls := .type "enumerate", data := .fields #[.none, .bool false, .ref s.heap.objs.size, rawInt 0, .none, .none] } }) :=
  .of_wp fun prog w A R s h => by
    obtain ⟨hp, g, d, tk, os⟩ := s; obtain ⟨h1, h⟩ := h
    have hsub := PySem.sub_enumerate
    have q1 : ∀ {A' : Around} {E : Value → Shared → Prop} {Q : Value → Shared → Prop}, Q (.ref hp.objs.size) ⟨hp.push o, g, d, tk, os⟩ → wpAny (model prog w) A' (pyIter v) Q E ⟨hp, g, d, tk, os⟩ :=
      fun q => B.iter prog w _ _ ⟨hp, g, d, tk, os⟩ _ h1 q
    wp_walk
    refine wpAny_stack_any fun st => wpAny_pure ?_
    split
    · rename_i c _ _ _ _ _
      cases (c == Value.type "enumerate")
      · wp_walk using q1
        exact ⟨_, rfl, h⟩
      · wp_walk using q1
        exact ⟨_, rfl, h⟩
    · wp_walk using q1
      exact ⟨_, rfl, h⟩
theorem enum_one {prog : Program} {w : World} {A : Around} {E : Value → Shared → Prop} {s : Shared} {v : Value} {o : Obj} {H : Heap → Prop} {Q : Value → Shared → Prop} (B : Begins v o H) (h1 : H s.heap)
    (h : ∀ h', IsEnum h' (s.heap.objs.size + 1) s.heap.objs.size 0 .none → h'.get? s.heap.objs.size = some o → h'.objs.size = s.heap.objs.size + 2 →
      (∀ b o, s.heap.get? b = some o → h'.get? b = some o) → Q (.ref (s.heap.objs.size + 1)) { s with heap := h' }) :
    wpAny (model prog w) A (call (.type "enumerate") [v]) Q E s := by
  refine callType_new F.called_enumerate (by decide) (F.typeCall_enumerate_1 _) (F.newCall_enumerate_1 _) (fun obj => F.args_object_init_2 obj _) F.entry_enumerate_new (meets_enumerate_one B) ⟨h1, ?_⟩
  have hz : (s.heap.push o).objs.size = s.heap.objs.size + 1 := Heap.size_push ..
  show _ ∧ _
  rw [hz]
  have he : IsEnum ((s.heap.push o).push { cls := .type "enumerate", data := .fields #[.none, .bool false, .ref s.heap.objs.size, rawInt 0, .none, .none] }) (s.heap.objs.size + 1) s.heap.objs.size 0 .none := by
    have := Heap.get?_push_size (s.heap.push o) (o := { cls := .type "enumerate", data := .fields #[.none, .bool false, .ref s.heap.objs.size, rawInt 0, .none, .none] }) rfl
    rw [hz] at this; exact this
  exact ⟨⟨_, he, rfl⟩, h _ he (Heap.get?_push_of_some _ (Heap.get?_push_size _ B.free)) (by rw [Heap.size_push, hz]) fun b o y => Heap.get?_push_of_some _ (Heap.get?_push_of_some _ y)⟩
end

/-! ### an iterator that gives new pairs -/
/-- n turns while G stands; at turn i a new pair -/
def Itp (n : Nat) (G : Hp → Prop) (xs ys : Nat → Option V) : It :=
  ⟨fun i H => i < n ∧ G H, fun i H v H' => ∃ T x y, v = .ref T ∧ H T = none ∧ H' = upd H T (.tup [x, y]) ∧ xs i = some x ∧ ys i = some y, fun i H => i = n ∧ G H⟩
theorem walk_itp {n : Nat} {G : Hp → Prop} {xs ys : Nat → Option V} : Walk (Itp n G xs ys) n G (YPair xs ys) :=
  ⟨fun i H hi h => ⟨hi, h⟩, fun H h => ⟨rfl, h⟩, fun i H x H' _ _ y => y⟩
theorem turn_itp {P : Program} {w : World} {K : PySem.W.Frag} {elts : List Expr} {kk : Nat} {tpos : Pos} {n : Nat} {G : Hp → Prop} {xs ys : Nat → Option V} {it : Addr} {fp fpG wr : List Addr} {St : Nat → Heap → Prop} {src : Heap → Prop} {Y : Nat → Heap → Value → Heap → Prop}
    (hmem : it ∈ fp) (hwr : ∀ b ∈ wr, b ∈ fp) (hobj : ∀ i h, St i h → ∀ b ∈ fp, ∃ o, h.get? b = some o ∧ ∀ v, o.data ≠ .cell v)
    (hkeep : ∀ i h h', St i h → (∀ b ∈ fp, ∀ o, h.get? b = some o → h'.get? b = some o) → St i h')
    (W : ∀ A : Around, A.handled = none → GoesN P w A (.Tuple elts kk tpos) it fpG wr n Y (fun i h => St i h ∧ src h))
    (hsrc : ∀ (X : Cx), X.prog = P → X.w = w → X.K = K → ∀ (pins : List (Addr × Obj)) (s : Shared) (σ : L2.St) (H : Hp), Inv X pins σ H s → G H → src s.heap)
    (hY : ∀ i h0 v h, Y i h0 v h → ∃ T x y vx vy, v = Value.ref T ∧ h0.objs.size ≤ T ∧ h.IsTuple T #[x, y] ∧ xs i = some vx ∧ RelV vx x ∧ ys i = some vy ∧ RelV vy y)
    (hself : ∀ (A : Around) (i : Nat) (s : Shared) (Q : Value → Shared → Prop) (E : Value → Shared → Prop), St i s.heap → Q (.ref it) s → wpAny (model P w) A (pyIter (.ref it)) Q E s) :
    Turn P w K (.Tuple elts kk tpos) (Itp n G xs ys) fp it St where
  mem := hmem
  obj := hobj
  keep := hkeep
  item := by
    intro X hP hw hK hc i pins s σ H E I hf st hg
    subst hP hw hK
    obtain ⟨hi, hG⟩ := hg
    refine wpAny_mono ((W X.A (I.ok.hd hc)).goes i s (fun v s2 => ∃ x H', Inv X pins σ H' s2 ∧ RelV x v ∧ (Itp n G xs ys).yld i H x H' ∧ St (i + 1) s2.heap ∧ ∀ b ∈ fp, H' b = none) E hi ⟨st, hsrc X rfl rfl rfl pins s σ H I hG⟩ fun v h' tk y st' hk htk => ?_) (fun r s1 q => q) fun _ _ e => e
    obtain ⟨T, x, y', vx, vy, rfl, hT, htup, ex, rx, ey, ry⟩ := hY _ _ _ _ y
    have new : ObjOk X.prog X.w (upd H T (.tup [vx, vy])) h' T (.tup [vx, vy]) := ⟨by show 2 ≤ sizeLine; decide, [x, y'], .cons rx (.cons ry .nil), htup⟩
    have I1 : Inv X pins σ (upd H T (.tup [vx, vy])) { s with heap := h', toks := tk } := I.turnedNew (ch := fp) (fun b o hb q => hk b o (fun z => hb (hwr b z)) q) hf hT new
    refine ⟨.ref T, _, I1, rfl, ⟨T, vx, vy, rfl, I.hok.fresh hT, rfl, ex, ey⟩, st'.1, fun b hb => ?_⟩
    obtain ⟨o, ho, _⟩ := hobj i _ st b hb
    rw [upd_ne (Nat.ne_of_lt (Nat.lt_of_lt_of_le (Heap.lt_size ho) hT))]
    exact (hf b hb).1
  done := by
    intro X hP hw hK hc i pins s σ H E I hf st hg
    subst hP hw hK
    obtain ⟨hi, hG⟩ := hg
    subst hi
    refine wpAny_mono ((W X.A (I.ok.hd hc)).stops s (fun s2 => Inv X pins σ H s2) E ⟨st, hsrc X rfl rfl rfl pins s σ H I hG⟩ fun h' tk hk htk => ?_) (fun r s1 q => q) fun _ _ e => e
    exact I.turnedL (ch := fp) (fun b o hb q => hk b o (fun z => hb (hwr b z)) q) hf
  self := hself

/-- the tuple at a holds xs -/
def TupSrc (a : Addr) (xs : List V) (h : Heap) : Prop := ∃ its : List Value, Vals xs its ∧ h.IsTuple a its.toArray
theorem tupSrc_of {X : Cx} {pins : List (Addr × Obj)} {s : Shared} {σ : L2.St} {H : Hp} {a : Addr} {xs : List V} (I : Inv X pins σ H s) (h : SqT X.K H a xs) : TupSrc a xs s.heap := by
  obtain ⟨its, rv, p, _⟩ := I.tuple h
  exact ⟨its, rv, p⟩
theorem val_at {xs : List V} {its : List Value} (rv : Vals xs its) {i : Nat} {x : Value} (hx : its.toArray[i]? = some x) : ∃ vx, xs[i]? = some vx ∧ RelV vx x := by
  have hx' : its[i]? = some x := by simpa using hx
  have hl : i < xs.length := by rw [rv.length]; exact (List.getElem?_eq_some_iff.mp hx').1
  obtain ⟨u, hu, ru⟩ := rv.get (List.getElem?_eq_getElem hl)
  rw [hx'] at hu
  cases hu
  exact ⟨_, List.getElem?_eq_getElem hl, ru⟩
/-- enumerate(t), t a tuple -/
def iEnumT (K : PySem.W.Frag) (ta : TA) : TI := fun σ H R => ta σ H fun vs H1 => ∃ a xs, vs = [.ref a] ∧ SqT K H1 a xs ∧ R (Itp xs.length (fun H => SqT K H a xs) (fun i => some (.int (i : Nat))) (fun i => xs[i]?)) H1
theorem pi_enumT {X : Cx} {e : Expr} {ta : TA} {p pos tpos : Pos} {elts : List Expr} {kk : Nat} (hg : Gl X "enumerate") (hm : X.mg "enumerate" = none) (ha : PA X [e] ta) (hs : starEach [e] X.env = [(false, eval e X.env)] := by rfl) :
    PI X (.Tuple elts kk tpos) (.Call (.Name "enumerate" p) [e] [] pos) (iEnumT X.K ta) := by
  refine ⟨fun pins s σ H R I h => ?_⟩
  refine Call_ (ld_blt I hg hm boot_enumerate (PyProof.Rows.callWith_type1 (thn (ha.run pos pins s σ H _ I h) fun us s1 ⟨vs, H1, I1, r1, q1⟩ => ?_) hs rfl))
  obtain ⟨a, xs, ex, hq, q⟩ := q1
  subst ex
  cases r1 with
  | cons r rr =>
    cases rr
    cases r
    obtain ⟨its, rv, p', hz⟩ := I1.tuple hq
    have hal : a < s1.heap.objs.size := by obtain ⟨o, ho, _⟩ := id p'; exact Heap.lt_size ho
    refine enum_one (begins_tuple a its.toArray) (show s1.heap.IsTuple a its.toArray from p') fun h' he hit hsz hk => wpAny_pyIter_enum he ?_
    have I2 : Inv X pins σ H1 { s1 with heap := h' } := I1.kept (t' := s1.toks) hk
    have hne : a ≠ s1.heap.objs.size := Nat.ne_of_lt hal
    have hna : s1.heap.objs.size + 1 ≠ a := Nat.ne_of_gt (Nat.lt_succ_of_lt hal)
    have fresh : ∀ b ∈ [s1.heap.objs.size + 1, s1.heap.objs.size], FpOk X pins H1 b := fun b hb => by
      have hle : s1.heap.objs.size ≤ b := by
        have e' : b = s1.heap.objs.size + 1 ∨ b = s1.heap.objs.size := by simpa using hb
        rcases e' with z | z
        · rw [z]; exact Nat.le_add_right _ _
        · rw [z]; exact Nat.le_refl _
      exact I1.fpOk hle (I1.hok.fresh hle)
    generalize s1.heap.objs.size = N at *
    have he0 : IsEnum h' (N + 1) N (0 + (((0 : Nat) : Nat) : Int)) .none := he
    refine ⟨N + 1, [N + 1, N], fun i h => (∃ old, IsEnum h (N + 1) N (0 + ((i : Nat) : Int)) old) ∧ h.IsTupleIter N a i, _, H1, rfl, I2, ?_, ⟨⟨.none, he0⟩, ⟨_, hit, rfl, rfl⟩⟩, fun b hb => ?_, q⟩
    · refine turn_itp (fpG := [N + 1, N, a]) (wr := [N + 1, N]) (src := TupSrc a xs) (Y := fun i h0 v h => ∃ T x y vx vy, v = Value.ref T ∧ h0.objs.size ≤ T ∧ h.IsTuple T #[x, y] ∧ some (V.int (i : Nat)) = some vx ∧ RelV vx x ∧ xs[i]? = some vy ∧ RelV vy y)
        (by simp) (fun b hb => hb) (fun i h st b hb => ?_) (fun i h h' st k => ?_) (fun A hA => ?_) (fun X' hP hw hK pins' s' σ' H' I' hG => ?_) (fun i h0 v h y => y) (fun A i s' Q E st hQ => ?_)
      · obtain ⟨⟨old, he⟩, ⟨o, ho, hc, hd⟩⟩ := st
        have e' : b = N + 1 ∨ b = N := by simpa using hb
        rcases e' with z | z
        · rw [z]; exact ⟨_, he, fun v q => nomatch q⟩
        · rw [z]; exact ⟨o, ho, fun v q => by rw [hd] at q; cases q⟩
      · obtain ⟨⟨old, he⟩, hi⟩ := st
        exact ⟨⟨old, k _ (by simp) _ he⟩, hi.at fun o q => k _ (by simp) o q⟩
      · have G : ∀ its : List Value, Vals xs its → _ := fun its rv => GoesN.enumFrom (elts := elts) (x1 := kk) (pos := tpos) 0 (Draws.tuple (prog := X.prog) (w := X.w) (A := A.in1) hA N a hne its.toArray) (N + 1) (Nat.succ_ne_self _) (by
          simp only [List.mem_cons, List.not_mem_nil, or_false, not_or]
          exact ⟨Nat.succ_ne_self _, hna⟩) (by simp)
        have hn : ∀ its : List Value, Vals xs its → its.toArray.size = xs.length := fun its rv => by rw [List.size_toArray, ← rv.length]
        refine ⟨by simp, fun i h h' st k => ?_, fun i s' Q E hi st hQ => ?_, fun s' Q E st hQ => ?_, fun i s' Q E st hQ => ?_⟩
        · obtain ⟨⟨z1, z2⟩, its, rv, z3⟩ := st
          obtain ⟨z1, z2, z3⟩ := (G its rv).frame i h h' ⟨z1, z2, z3⟩ k
          exact ⟨⟨z1, z2⟩, its, rv, z3⟩
        · obtain ⟨⟨z1, z2⟩, its, rv, z3⟩ := st
          refine (G its rv).goes i s' Q E (by rw [hn its rv]; exact hi) ⟨z1, z2, z3⟩ fun v h' tk y st' hk htk => hQ v h' tk ?_ ⟨⟨st'.1, st'.2.1⟩, its, rv, st'.2.2⟩ hk htk
          obtain ⟨T, t, x, ev, hT, hx, htup⟩ := y
          obtain ⟨vx, hvx, rx⟩ := val_at rv hx
          exact ⟨T, _, x, .int (i : Nat), vx, ev, hT, htup, rfl, ⟨t, by simp⟩, hvx, rx⟩
        · obtain ⟨⟨z1, z2⟩, its, rv, z3⟩ := st
          refine (G its rv).stops s' Q E ?_ hQ
          rw [hn its rv]
          exact ⟨z1, z2, z3⟩
        · obtain ⟨⟨z1, z2⟩, its, rv, z3⟩ := st
          exact (G its rv).self i s' Q E ⟨z1, z2, z3⟩ hQ
      · exact tupSrc_of I' (by rw [hK]; exact hG)
      · obtain ⟨⟨old, he⟩, _⟩ := st
        exact wpAny_pyIter_enum he hQ
    · exact fresh b hb

/-- zip(s, t), s a text and t a tuple of one length -/
def iZipST (K : PySem.W.Frag) (ta : TA) : TI := fun σ H R => ta σ H fun vs H1 => ∃ (x : Str) (a : Addr) (xs : List V), vs = [.str x, .ref a] ∧ SqT K H1 a xs ∧ x.cps.size = xs.length ∧
  R (Itp xs.length (fun H => SqT K H a xs) (fun i => (x.cps[i]?).map fun c => V.str ⟨#[c]⟩) (fun i => xs[i]?)) H1
theorem pi_zipST {X : Cx} {e e2 : Expr} {ta : TA} {p pos tpos : Pos} {elts : List Expr} {kk : Nat} (hg : Gl X "zip") (hm : X.mg "zip" = none) (ha : PA X [e, e2] ta)
    (hs : starEach [e, e2] X.env = (false, eval e X.env) :: starEach [e2] X.env := by rfl) (hpl : (backTo pos (starEach [e2] X.env)).any (·.1) = false := by rfl) :
    PI X (.Tuple elts kk tpos) (.Call (.Name "zip" p) [e, e2] [] pos) (iZipST X.K ta) := by
  refine ⟨fun pins s σ H R I h => ?_⟩
  refine Call_ (ld_blt I hg hm PyProof.Rows.boot_zip (PyProof.Rows.callWith_type1 (thn (ha.run pos pins s σ H _ I h) fun us s1 ⟨vs, H1, I1, r1, q1⟩ => ?_) hs hpl))
  obtain ⟨x, a, xs, ex, hq, hlen, q⟩ := q1
  subst ex
  cases r1 with
  | cons r rr =>
    cases rr with
    | cons r' rr =>
    cases rr
    obtain ⟨t, rfl⟩ := (show ∃ t, _ = Value.str x t from r)
    cases (show _ = Value.ref a from r')
    obtain ⟨its, rv, p', hz⟩ := I1.tuple hq
    have hal : a < s1.heap.objs.size := by obtain ⟨o, ho, _⟩ := id p'; exact Heap.lt_size ho
    refine zip_begins2 (begins_text x t) (begins_tuple a its.toArray) True.intro (show s1.heap.IsTuple a its.toArray from p') fun h' hz' hTI hTO h1 h2 hsz hk => wpAny_pyIter_zip hz' ?_
    have I2 : Inv X pins σ H1 { s1 with heap := h' } := I1.kept (t' := s1.toks) hk
    have hne : a ≠ s1.heap.objs.size + 1 := Nat.ne_of_lt (Nat.lt_succ_of_lt hal)
    have fresh : ∀ b ∈ [s1.heap.objs.size + 4, s1.heap.objs.size + 2, s1.heap.objs.size + 3, s1.heap.objs.size, s1.heap.objs.size + 1], FpOk X pins H1 b := fun b hb => by
      have hle : s1.heap.objs.size ≤ b := by
        have e' : b = s1.heap.objs.size + 4 ∨ b = s1.heap.objs.size + 2 ∨ b = s1.heap.objs.size + 3 ∨ b = s1.heap.objs.size ∨ b = s1.heap.objs.size + 1 := by simpa using hb
        rcases e' with z | z | z | z | z
        · rw [z]; exact Nat.le_add_right _ _
        · rw [z]; exact Nat.le_add_right _ _
        · rw [z]; exact Nat.le_add_right _ _
        · rw [z]; exact Nat.le_refl _
        · rw [z]; exact Nat.le_add_right _ _
      exact I1.fpOk hle (I1.hok.fresh hle)
    have S := zip_sep2 (N := s1.heap.objs.size) (fp1 := []) (fp2 := [a]) (by simp) (by simpa using hal)
    generalize s1.heap.objs.size = N at *
    refine ⟨N + 4, [N + 4, N + 2, N + 3, N, N + 1], fun i h => IsZip h (N + 4) (N + 2) (N + 3) .none ∧ IsTupOf2 h (N + 2) (.ref N) (.ref (N + 1)) ∧ (∃ a1 a2, IsTupOf2 h (N + 3) a1 a2) ∧ h.IsStrIter N (strIterType x) x t i ∧ h.IsTupleIter (N + 1) a i, _, H1, rfl, I2, ?_,
      ⟨hz', hTI, ⟨_, _, hTO⟩, ⟨_, h1, rfl, rfl⟩, ⟨_, h2, rfl, rfl⟩⟩, fun b hb => fresh b hb, q⟩
    refine turn_itp (fpG := (N + 4) :: (N + 2) :: (N + 3) :: ([N] ++ [N + 1, a])) (wr := [N + 4, N + 3, N, N + 1]) (src := TupSrc a xs)
      (Y := fun i h0 v h => ∃ T y1 y2 vx vy, v = Value.ref T ∧ h0.objs.size ≤ T ∧ h.IsTuple T #[y1, y2] ∧ (x.cps[i]?).map (fun c => V.str ⟨#[c]⟩) = some vx ∧ RelV vx y1 ∧ xs[i]? = some vy ∧ RelV vy y2)
      (by simp) (fun b hb => by
        simp only [List.mem_cons, List.not_mem_nil, or_false] at hb ⊢
        rcases hb with z | z | z | z <;> simp [z]) (fun i h st b hb => ?_) (fun i h h' st k => ?_) (fun A hA => ?_) (fun X' hP hw hK pins' s' σ' H' I' hG => tupSrc_of I' (by rw [hK]; exact hG)) (fun i h0 v h y => y) (fun A i s' Q E st hQ => wpAny_pyIter_zip st.1 hQ)
    · obtain ⟨z1, z2, ⟨a1, a2, z3⟩, ⟨o1, e1, _, d1⟩, ⟨o2, e2, _, d2⟩⟩ := st
      have e' : b = N + 4 ∨ b = N + 2 ∨ b = N + 3 ∨ b = N ∨ b = N + 1 := by simpa using hb
      rcases e' with z | z | z | z | z
      · rw [z]; exact ⟨_, z1, fun v q => nomatch q⟩
      · rw [z]; exact ⟨_, z2, fun v q => nomatch q⟩
      · rw [z]; exact ⟨_, z3, fun v q => nomatch q⟩
      · rw [z]; exact ⟨o1, e1, fun v q => by rw [d1] at q; cases q⟩
      · rw [z]; exact ⟨o2, e2, fun v q => by rw [d2] at q; cases q⟩
    · obtain ⟨z1, z2, ⟨a1, a2, z3⟩, z4, z5⟩ := st
      exact ⟨k _ (by simp) _ z1, k _ (by simp) _ z2, ⟨a1, a2, k _ (by simp) _ z3⟩, (let ⟨o, e, c, d⟩ := z4; ⟨o, k _ (by simp) _ e, c, d⟩), z5.at fun o q => k _ (by simp) o q⟩
    · have G : ∀ its : List Value, Vals xs its → _ := fun its rv => GoesN.zip2 (elts := elts) (x1 := kk) (pos := tpos) S (Draws.text (prog := X.prog) (w := X.w) (A := A.in1) hA N x t) (Draws.tuple (prog := X.prog) (w := X.w) (A := A.in1) hA (N + 1) a hne its.toArray)
      have hn : ∀ its : List Value, Vals xs its → min x.cps.size its.toArray.size = xs.length := fun its rv => by
        have e1 : its.toArray.size = xs.length := by rw [List.size_toArray, ← rv.length]
        rw [e1, hlen, Nat.min_self]
      refine ⟨fun b hb => by
        simp only [List.mem_cons, List.not_mem_nil, or_false, List.cons_append, List.nil_append] at hb ⊢
        rcases hb with z | z | z | z <;> simp [z], fun i h h' st k => ?_, fun i s' Q E hi st hQ => ?_, fun s' Q E st hQ => ?_, fun i s' Q E st hQ => ?_⟩
      · obtain ⟨⟨z1, z2, z3, z4, z5⟩, its, rv, z6⟩ := st
        obtain ⟨z1, z2, z3, z4, z5, z6⟩ := (G its rv).frame i h h' ⟨z1, z2, z3, z4, z5, z6⟩ k
        exact ⟨⟨z1, z2, z3, z4, z5⟩, its, rv, z6⟩
      · obtain ⟨⟨z1, z2, z3, z4, z5⟩, its, rv, z6⟩ := st
        refine (G its rv).goes i s' Q E (by rw [hn its rv]; exact hi) ⟨z1, z2, z3, z4, z5, z6⟩ fun v h' tk y st' hk htk => hQ v h' tk ?_ ⟨⟨st'.1, st'.2.1, st'.2.2.1, st'.2.2.2.1, st'.2.2.2.2.1⟩, its, rv, st'.2.2.2.2.2⟩ hk htk
        obtain ⟨T, y1, y2, ev, hT, ⟨c, u, hc, e1⟩, hx, htup⟩ := y
        obtain ⟨vx, hvx, rx⟩ := val_at rv hx
        exact ⟨T, y1, y2, .str ⟨#[c]⟩, vx, ev, hT, htup, by rw [hc]; rfl, ⟨u, e1⟩, hvx, rx⟩
      · obtain ⟨⟨z1, z2, z3, z4, z5⟩, its, rv, z6⟩ := st
        refine (G its rv).stops s' Q E ?_ hQ
        rw [hn its rv]
        exact ⟨z1, z2, z3, z4, z5, z6⟩
      · obtain ⟨⟨z1, z2, z3, z4, z5⟩, its, rv, z6⟩ := st
        exact (G its rv).self i s' Q E ⟨z1, z2, z3, z4, z5, z6⟩ hQ
end CwR

/-! ## CwDict -/
/-! Dicts: comprehensions with any keys, {t: v} with a tuple t, d[k] as a target, d.update(e). -/
namespace CwR
open PySem PySem.Spec PyProof.Rows L2
section
variable {X : Cx} {pins : List (Addr × Obj)} {σ : L2.St} {H : Hp} {s : Shared} {A : Around} {E : Value → Shared → Prop}
/-- what a comprehension stores, whatever the key -/
theorem dictSet_put {D : Addr} {y z : V} {H' : Hp} {u r : Value} {Q : Unit → Shared → Prop} (hu : X.A.units < cLine) (I : Inv X pins σ H s) (g : DPut H D y z H') (ry : RelV y u) (rv : RelV z r) (h : ∀ s', Inv X pins σ H' s' → Q () s') :
    wpAny (model X.prog X.w) X.A (dictSet D u r) Q E s := by
  rcases g with ⟨kvs, k, e, ey, l, eH⟩ | ⟨kvs, k, b, e, ey, eb, l, eH⟩
  · subst ey eH
    exact d_dictSet I e l ry rv h
  · subst ey eH
    cases (show u = Value.ref b from ry)
    obtain ⟨_, hd, xs, rel, dd⟩ := dt_of I.hok e
    have hz : xs.length ≤ sizeLine := by rw [← Paired.length rel]; exact Nat.le_of_lt l
    have hl : (putK kvs k z).length ≤ sizeLine := by have := length_putK kvs k z; omega
    refine wpAny_dictSet_heap (hsz := hz) (show (tupleKind (mixKind X.prog X.w)).room X.A from hu) (key_of I.hok eb) dd fun h' dd' hs => h _ ?_
    obtain ⟨q, es, ep, hq, h2, h3, h4, _, h5⟩ := dd'
    refine d_write I (by rw [e]; exact True.intro) hs ⟨q, hq⟩ ⟨hl, hd, _, (rel.put k eb rv).keeps fun c ys ec => ?_, q, es, ep, hq, h2, h3, h4, h5⟩
    rw [upd_ne (ne_of ec e (fun z => nomatch z))]
    exact ec
/-- a new dict, to be of either kind -/
def NewD (o : HO) : Prop := o = .dK [] ∨ o = .dT []
theorem newD_ok {P : Program} {w : World} {H : Hp} {o : HO} (n : NewD o) (h : Heap) (hb : sysModules < h.objs.size) : ObjOk P w H (h.push { cls := .type "dict", data := .dict #[] }) h.objs.size o := by
  rcases n with rfl | rfl
  · exact dk_empty h hb
  · exact dt_empty h hb
end
section
variable {X : Cx}
/-- {k: v for target in iter if ..}: the new dict o at D, any keys -/
def tDg (o : HO) (wi : TI) (g : TG) (tt : TT) (tk tv : TE) (vs : List Nat) : TE := fun σ H Q => wi σ H fun J H1 => ∀ D, H1 D = none → ∃ W : Nat → Nat → Hp → Prop, (∃ m, W 0 m (upd H1 D o)) ∧ ∀ i m H, W i m H →
  (J.stop i H ∧ Q (.ref D) H) ∨ (J.go i H ∧ ∃ Nx : Hp → Prop, (∀ H', Nx H' → ∃ m', m' < m ∧ W (i + 1) m' H') ∧ ∀ x H', J.yld i H x H' → g x (wipe σ vs) H' fun σ2 H2 => wipe σ2 vs = wipe σ vs ∧ tt σ2 H2 fun b H3 =>
    if b = true then tk σ2 H3 fun y H4 => tv σ2 H4 fun z H5 => ∃ H6, DPut H5 D y z H6 ∧ Nx H6 else Nx H3)
theorem pe_dg {o : HO} {kx vx tg iter : Expr} {ifs : List Expr} {scope : Scope} {own : List (Str × Nat)} {pos : Pos} {wi : TI} {g : TG} {tt : TT} {tk tv : TE} (nw : NewD o) (hu : X.A.units < cLine) (hc : X.calm = true) (hN : X.N.Nodup) (hi : PI X tg iter wi) (ok : BlkOk X.N X.env.scope scope own)
    (hg : ∀ (s : Shared) (H : Hp) (C : Addr) (cl : List (Str × Addr)) (fp : List Addr), PG (X.blk s H scope (compEnvC scope cl C X.env) fp) tg g) (ht : ∀ (s : Shared) (H : Hp) (C : Addr) (cl : List (Str × Addr)) (fp : List Addr), PTs (X.blk s H scope (compEnvC scope cl C X.env) fp) ifs tt)
    (hk : ∀ (s : Shared) (H : Hp) (C : Addr) (cl : List (Str × Addr)) (fp : List Addr), PE (X.blk s H scope (compEnvC scope cl C X.env) fp) kx tk)
    (he : ∀ (s : Shared) (H : Hp) (C : Addr) (cl : List (Str × Addr)) (fp : List Addr), PE (X.blk s H scope (compEnvC scope cl C X.env) fp) vx tv) (hs : ∀ x, foldedSetIterable iter X.env x = pure x := by intro _; rfl) :
    PE X (.DictComp kx vx [⟨tg, iter, ifs, 0⟩] scope pos) (tDg o wi g tt tk tv (own.map (·.2))) := by
  refine ⟨fun pins s σ H Q I h => ?_⟩
  rw [arm_eval_DictComp]
  have hfree : ∀ y ∈ scope.names, y.2 = .free → ∃ c, X.env.cells.lookup y.1 = some c := fun y hy e => (ok.free y hy e).elim (fun k => I.ok.has _ (.inl k)) fun k => I.ok.has _ (.inr k)
  refine wpAny_comprehension_free (use := none) rfl hs (closure_ok hfree) ok.kind (fun y hy e => by rw [ok.uniq y hy, e]) (thn (hi.run pins s σ H _ I h) fun xv s1 hx => thn hx fun itv s2 h2 => ?_)
  obtain ⟨it, fp, tn, J, H2, e, I2, T, st2, f2, q⟩ := h2
  subst e
  refine wpAny_newObj_type (newEnv_comp ?_)
  generalize hD : s2.heap.objs.size = D
  have hDn : H2 D = none := I2.hok.fresh (Nat.le_of_eq hD)
  obtain ⟨W, ⟨m0, w0⟩, turn⟩ := q D hDn
  generalize hs3 : ({ s2 with heap := s2.heap.push { cls := .type "dict", data := .dict #[] } } : Shared) = s3
  have h3 : s3.heap = s2.heap.push { cls := .type "dict", data := .dict #[] } := by rw [← hs3]
  have I3 : Inv X pins σ (upd H2 D o) s3 := by
    rw [← hs3]
    refine I2.laid (t' := s2.toks) (fun b o e => Heap.get?_push_of_some _ e) (Nat.le_of_eq hD) ?_
    rw [← hD]
    exact newD_ok nw s2.heap I2.big
  have f3 : ∀ b ∈ fp, FpOk X pins (upd H2 D o) b ∧ b < s3.heap.objs.size := fun b hb => by
    obtain ⟨ob, e, _⟩ := T.obj _ _ st2 b hb
    have hlt := Heap.lt_size e
    refine ⟨⟨?_, (f2 b hb).2⟩, by rw [h3, Heap.size_push]; exact Nat.lt_succ_of_lt hlt⟩
    rw [upd_ne (by rw [← hD]; exact Nat.ne_of_lt hlt)]
    exact (f2 b hb).1
  have st3 : tn 0 s3.heap := T.keep _ _ _ st2 fun b _ ob e => by rw [h3]; exact Heap.get?_push_of_some _ e
  have I4 := block_start I3 ok hN f3
  have pg := hg s3 (upd H2 D o) s3.heap.objs.size (cellsFrom (s3.heap.objs.size + 1) scope.names (cloFrom X.env.cells scope.names [])) fp
  have pt := ht s3 (upd H2 D o) s3.heap.objs.size (cellsFrom (s3.heap.objs.size + 1) scope.names (cloFrom X.env.cells scope.names [])) fp
  have pk := hk s3 (upd H2 D o) s3.heap.objs.size (cellsFrom (s3.heap.objs.size + 1) scope.names (cloFrom X.env.cells scope.names [])) fp
  have pe := he s3 (upd H2 D o) s3.heap.objs.size (cellsFrom (s3.heap.objs.size + 1) scope.names (cloFrom X.env.cells scope.names [])) fp
  show codeAny _ _ (.compStart (.DictComp kx vx [⟨tg, iter, ifs, 0⟩] scope pos) 0 (.ref it) (.ref D) (compEnvC scope (cellsFrom (s3.heap.objs.size + 1) scope.names (cloFrom X.env.cells scope.names [])) s3.heap.objs.size X.env)) (compPost (model X.prog X.w) X.A X.xe none _ (.ref D) s3.heap.objs.size) { s3 with heap := pushCells (s3.heap.push { cls := .type "dict", data := .dict #[] }) scope.names }
  generalize hce : compEnvC scope (cellsFrom (s3.heap.objs.size + 1) scope.names (cloFrom X.env.cells scope.names [])) s3.heap.objs.size X.env = ce at I4 pg pt pk pe ⊢
  have cL : ce.locals = s3.heap.objs.size := by subst hce; rfl
  generalize hH3 : upd H2 D o = H3 at I3 I4 pg pt pk pe w0 f3
  generalize hs4 : ({ s3 with heap := pushCells (s3.heap.push { cls := .type "dict", data := .dict #[] }) scope.names } : Shared) = s4 at I4 ⊢
  have st4 : tn 0 s4.heap := T.keep _ _ _ st3 fun b _ ob e => by rw [← hs4]; exact pushCells_keeps _ _ _ _ (Heap.get?_push_of_some _ e)
  have stat : ∀ {σ' : L2.St} {H' : Hp} {s' : Shared}, Inv (X.blk s3 H3 scope ce fp) [] σ' H' s' → (∀ b ∈ fp, H' b = none) → ∀ b ∈ fp, FpOk (X.blk s3 H3 scope ce fp) [] H' b := fun {σ' H' s'} I' hn b hb =>
    ⟨hn b hb, (I'.ok.exf b hb).1, I'.ok.exfs b hb, .inl hb, fun x c e => (I'.ok.exf b hb).2 x c e, fun p hp => absurd (show p ∈ ([] : List (Addr × Obj)) ++ [] from hp) (by simp)⟩
  have loop : codeAny (model X.prog X.w) X.A (.compLoop (.DictComp kx vx [⟨tg, iter, ifs, 0⟩] scope pos) 0 (.ref it) (.ref D) ce) (compPost (model X.prog X.w) X.A X.xe none (EP X pins σ Q) (.ref D) s3.heap.objs.size) s4 := by
    refine compLoop_anyD (fun n s' => ∃ i H', Inv (X.blk s3 H3 scope ce fp) [] (wipe σ (own.map (·.2))) H' s' ∧ tn i s'.heap ∧ (∀ b ∈ fp, H' b = none) ∧ W i n H') ?_ m0 ⟨0, H3, I4, st4, fun b hb => (f3 b hb).1.1, w0⟩
    rintro n s5 ⟨i, H5, I5, st5, n5, w5⟩
    rcases turn i n H5 w5 with ⟨stop, qq⟩ | ⟨go, Nx, hNx, step⟩
    · refine thnF (T.done (X.blk s3 H3 scope ce fp) rfl rfl rfl hc i [] s5 _ H5 (fun _ _ => False) I5 (stat I5 n5) st5 stop) fun r s6 ⟨hr, I6⟩ => ?_
      subst hr
      have I7 : Inv X pins σ H5 s6 := I3.call' (ch := fp) I6.os I6.base I6.hok I6.bare fun b hb => ⟨(f3 b hb).1.2.2.2.1, (f3 b hb).1.2.1, (f3 b hb).1.2.2.2.2.1, (f3 b hb).1.2.2.2.2.2⟩
      have nC : H5 s3.heap.objs.size = none := by
        have z : H5 ce.locals = none := I6.free
        rw [cL] at z
        exact z
      obtain ⟨m, hn, _⟩ := I6.loc
      have hn : s6.heap.Ns ce.locals m := hn
      rw [cL] at hn
      obtain ⟨g0, g1, g2, g3, g4, g5⟩ := I3.fpOk (Nat.le_refl _) nC
      exact ⟨m, hn, fun h'' sb => ⟨.ref D, H5, I7.turned (t' := s6.toks) (fun b ob hb e => (sb.2 b hb).trans e) g0 g1 g3 g4 g5, rfl, qq⟩⟩
    · refine thnF (T.item (X.blk s3 H3 scope ce fp) rfl rfl rfl hc i [] s5 _ H5 (fun _ _ => False) I5 (stat I5 n5) st5 go) fun r s6 ⟨u, hr, h6⟩ => ?_
      subst hr
      refine thnF h6 fun _ s7 ⟨x, H7, I7, r7, y7, st7, n7⟩ => ?_
      have I7' := I7.pinned (stat I7 n7) (T.obj _ _ st7)
      refine thnF (pg.run _ s7 _ H7 x u _ I7' r7 (step x H7 y7)) fun _ s8 ⟨σ8, H8, I8, hw8, q8⟩ => ?_
      refine thnF (pt.run _ s8 σ8 H8 _ I8 q8) fun b s9 ⟨H9, I9, q9⟩ => ?_
      have fin : ∀ {s' : Shared} {H' : Hp}, Inv (X.blk s3 H3 scope ce fp) ([] ++ pinsAt fp s7.heap) σ8 H' s' → Nx H' → ∃ m, m < n ∧ ∃ i H', Inv (X.blk s3 H3 scope ce fp) [] (wipe σ (own.map (·.2))) H' s' ∧ tn i s'.heap ∧ (∀ b ∈ fp, H' b = none) ∧ W i m H' := fun {s' H'} I' nx => by
        obtain ⟨m', hm, w'⟩ := hNx H' nx
        have pin' : ∀ b ∈ fp, ∀ ob, s7.heap.get? b = some ob → s'.heap.get? b = some ob ∧ H' b = none := fun b hb ob e =>
          let z := I'.pin (b, ob) (List.mem_append_right _ (List.mem_append_right _ (mem_pinsAt hb e)))
          ⟨z.1, z.2.1⟩
        have hl : (wipe σ (own.map (·.2))).length = σ8.length := by rw [← hw8, wipe_length]
        refine ⟨m', hm, i + 1, H', (I'.unpinned (pins := [])).weak hl (fun j v e => (wipe_some (by rw [hw8]; exact e)).1), T.keep _ _ _ st7 fun b hb ob e => (pin' b hb ob e).1, fun b hb => ?_, w'⟩
        obtain ⟨ob, e, _⟩ := T.obj _ _ st7 b hb
        exact (pin' b hb ob e).2
      cases b with
      | false =>
        simp only [Bool.false_eq_true, if_false] at q9 ⊢
        exact fin I9 q9
      | true =>
        simp only [if_true] at q9 ⊢
        refine thnF (pk.run _ s9 σ8 H9 _ I9 q9) fun z s10 ⟨yk, H10, I10, r10, q10⟩ => ?_
        refine thnF (pe.run _ s10 σ8 H10 _ I10 q10) fun z2 s11 ⟨yv, H11, I11, r11, H12, pt12, nx⟩ => ?_
        exact dictSet_put (X := X.blk s3 H3 scope ce fp) hu I11 pt12 r10 r11 fun s12 I12 => fin I12 nx
  exact codeAny_compStart_dict loop (T.self X.A 0 _ _ _ st4 loop)
/-- .. over anything that is walked -/
theorem dg_it {J : It} {n : Nat} {G : Hp → Prop} {Y : Nat → Hp → V → Hp → Prop} (w : Walk J n G Y) {o : HO} {g : TG} {tt : TT} {tk tv : TE} {vs : List Nat} {σ : L2.St} {H1 : Hp} {D : Addr} {Qd : Hp → Prop} (Pv : Nat → Hp → Prop) (h0 : Pv 0 (upd H1 D o)) (hG : ∀ i H, i ≤ n → Pv i H → G H)
    (hs : ∀ i x H H', i < n → Pv i H → Y i H x H' → g x (wipe σ vs) H' fun σ2 H2 => wipe σ2 vs = wipe σ vs ∧ tt σ2 H2 fun b H3 =>
      if b = true then tk σ2 H3 fun y H4 => tv σ2 H4 fun z H5 => ∃ H6, DPut H5 D y z H6 ∧ Pv (i + 1) H6 else Pv (i + 1) H3) (hd : ∀ H, Pv n H → Qd H) :
    ∃ W : Nat → Nat → Hp → Prop, (∃ m, W 0 m (upd H1 D o)) ∧ ∀ i m H, W i m H →
      (J.stop i H ∧ Qd H) ∨ (J.go i H ∧ ∃ Nx : Hp → Prop, (∀ H', Nx H' → ∃ m', m' < m ∧ W (i + 1) m' H') ∧ ∀ x H', J.yld i H x H' → g x (wipe σ vs) H' fun σ2 H2 => wipe σ2 vs = wipe σ vs ∧ tt σ2 H2 fun b H3 =>
        if b = true then tk σ2 H3 fun y H4 => tv σ2 H4 fun z H5 => ∃ H6, DPut H5 D y z H6 ∧ Nx H6 else Nx H3) := by
  refine ⟨fun i m H => m = n - i ∧ i ≤ n ∧ Pv i H, ⟨n, by simp, Nat.zero_le _, h0⟩, ?_⟩
  rintro i m H ⟨rfl, hi, p⟩
  have q := hG i H hi p
  by_cases hlt : i < n
  · exact .inr ⟨w.goes i H hlt q, Pv (i + 1), fun H' p' => ⟨n - (i + 1), by omega, rfl, hlt, p'⟩, fun x H' y => hs i x H H' hlt p (w.yields i H x H' hlt q y)⟩
  · have e : i = n := by omega
    subst e
    exact .inl ⟨w.stops H q, hd H p⟩

/-! ### {t: v}, t a tuple -/
def tDispT (tk tv : TE) : TE := fun σ H Q => ∀ p, H p = none → tk σ (upd H p (.dT [])) fun x H1 => tv σ H1 fun y H2 => ∃ (k : List Key) (b : Addr), x = .ref b ∧ H2 b = some (.tup (k.map kV)) ∧ H2 p = some (.dT []) ∧ Q (.ref p) (upd H2 p (.dT [(k, y)]))
theorem pe_dispT {pos : Pos} {kx vx : Expr} {tk tv : TE} (hu : X.A.units < cLine) (hk : PE X kx tk) (hv : PE X vx tv) : PE X (.Dict [some kx] [vx] pos) (tDispT tk tv) := by
  refine ⟨fun pins s σ H Q I q => ?_⟩
  have hn := I.hok.fresh (Nat.le_refl s.heap.objs.size)
  have I1 := I.laid (a := s.heap.objs.size) (o := .dT []) (h' := s.heap.push { cls := .type "dict", data := .dict #[] }) (t' := s.toks) (fun _ _ q => Heap.get?_push_of_some _ q) (Nat.le_refl _) (dt_empty s.heap I.big)
  have room : (tupleKind (mixKind X.prog X.w)).room X.A := hu
  have run : wpAny (model X.prog X.w) X.A (evalPairs (pairTrees [some kx] [vx] X.env pos)) (fun vs s₁ => ∃ ps, CarriesH (tupleKind (mixKind X.prog X.w)) s₁.heap vs ps ∧ s₁.heap.DictOfH (tupleKind (mixKind X.prog X.w)) s.heap.objs.size [] ∧
      ∀ h' tk, h'.DictOfH (tupleKind (mixKind X.prog X.w)) s.heap.objs.size (storedAllH [] ps) → Heap.SameBut s.heap.objs.size s₁.heap h' → EP X pins σ Q (.ref s.heap.objs.size) { s₁ with heap := h', toks := tk }) X.xe { s with heap := s.heap.push { cls := .type "dict", data := .dict #[] } } := by
    refine pairTrees_cons_walk (thn (hk.run pins _ σ _ _ I1 (q _ hn)) fun u s2 ⟨x, H2, I2, rx, q2⟩ => thn (hv.run pins s2 σ H2 _ I2 q2) fun r s3 ⟨y, H3, I3, ry, k, b, ex, eb, ep, q3⟩ => pairTrees_nil_walk ?_)
    subst ex
    obtain rfl : u = Value.ref b := rx
    obtain ⟨z, hd, xs, rel, dd⟩ := dt_of I3.hok ep
    cases rel
    refine ⟨[(k, b, r)], ⟨rfl, rfl, key_of I3.hok eb, True.intro⟩, dd, fun h' tk dd' hs => ⟨.ref s.heap.objs.size, _, ?_, rfl, q3⟩⟩
    obtain ⟨o', es, ep', hq, h2, h3, h4, _, h5⟩ := dd'
    have kt : KT (upd H3 s.heap.objs.size (.dT [(k, y)])) [(k, y)] (storedAllH [] [(k, b, r)]) := by
      have hne : b ≠ s.heap.objs.size := ne_of eb ep (fun z => nomatch z)
      refine .cons ⟨rfl, ?_, ry⟩ .nil
      rw [upd_ne hne]
      exact eb
    exact d_write I3 (by rw [ep]; exact True.intro) hs ⟨o', hq⟩ ⟨by show 1 ≤ sizeLine; decide, hd, _, kt, o', es, ep', hq, h2, h3, h4, h5⟩
  rw [arm_eval_Dict, zip_pairTrees [some kx] [vx] X.env pos rfl rfl, dictDisplay_pairs _ (fun z => by have := congrArg List.length z; rw [pairTrees_length [some kx] [vx] X.env pos rfl rfl] at this; cases this) (by rw [pairTrees_length [some kx] [vx] X.env pos rfl rfl]; show 1 < 17; decide)]
  refine wpAny_bind (wpAny_standAt (wpAny_bind (wpAny_subDictH (knd := tupleKind (mixKind X.prog X.w)) (Q := fun d s' => wpAny (model X.prog X.w) X.A (pure (Value.ref d)) (EP X pins σ Q) X.xe s') room (by rw [pairTrees_length [some kx] [vx] X.env pos rfl rfl]; show 1 ≤ 15; decide) ?_)))
  exact wpAny_mono run (fun vs s₁ ⟨ps, a, b, c⟩ => ⟨ps, a, b, fun h' tk x y => wpAny_pure (c h' tk x y)⟩) fun _ _ e => e

/-! ### d[k] as one of several targets -/
theorem set_dict (hu : X.A.units + 1 < cLine) : PSet X (fun o i v H Q => ∃ a H', o = .ref a ∧ DPut H a i v H' ∧ Q H') := by
  intro pins s σ H o i v ov iv u Q I ro ri rv h
  obtain ⟨a, H', rfl, g, q⟩ := h
  obtain rfl : ov = Value.ref a := ro
  exact d_setItem hu I g ri rv fun s' I' => ⟨H', I', q⟩

/-! ### d.update(e), both with int and text keys -/
def rUpd : V → List V → Hp → VK → Prop := fun x xs H Q => ∃ (a b : Addr) (ks more : List (Key × V)), x = .ref a ∧ xs = [.ref b] ∧ H a = some (.dK ks) ∧ H b = some (.dK more) ∧ a ≠ b ∧ ks.length + more.length ≤ sizeLine ∧ Q .non (upd H a (.dK (mergeK ks more)))
theorem mt_update : MtR X "dict.update" rUpd := by
  intro pins s σ H x xs v us Q I rx rs h
  obtain ⟨a, b, ks, more, rfl, rfl, ea, eb, hne, hl, q⟩ := h
  obtain rfl : v = Value.ref a := rx
  obtain ⟨u, rfl, ru⟩ : ∃ u, us = [u] ∧ RelV (.ref b) u := by
    cases rs with
    | cons p q => cases q; exact ⟨_, rfl, p⟩
  obtain rfl : u = Value.ref b := ru
  obtain ⟨za, hda, va, ra, da⟩ := dk_of I.hok ea
  obtain ⟨zb, hdb, vb, rb, db⟩ := dk_of I.hok eb
  refine call_meetsIn PySem.F.slot_dict_update da.typeIs PySem.F.entry_dict_update (PySem.F.args_dict_update_2 _ _) (meets_dict_update (mixKind X.prog X.w) a b hne hdb) ⟨va, vb, da, db, by rw [← ra.length, ← rb.length]; exact hl, fun h' da' db' hs => ?_⟩
  have hz : (mergeK ks more).length ≤ sizeLine := Nat.le_trans (length_mergeK more ks) hl
  have he : ∃ q, h'.get? a = some q := let ⟨q, _, _, hq, _⟩ := da'; ⟨q, hq⟩
  exact ⟨.non, _, d_write (t' := s.toks) I (by rw [ea]; exact True.intro) hs he (dk_new hz hda (rb.merge ra) da'), rfl, q⟩
end
end CwR

/-! ## CwText -/
/-! A text backwards. -/
namespace CwR
open PySem PySem.Spec PyProof.Rows L2
theorem rev_all {α : Type} (xs : Array α) : (List.range xs.size).filterMap (fun i => xs[i]?) = xs.toList := by
  apply List.ext_getElem?
  intro i
  have h : ∀ n, n ≤ xs.size → (List.range n).filterMap (fun i => xs[i]?) = xs.toList.take n := by
    intro n
    induction n with
    | zero => intro _; simp
    | succ n ih =>
      intro hn
      rw [List.range_succ, List.filterMap_append, ih (by omega), List.take_add_one]
      have e : xs[n]? = some xs[n] := Array.getElem?_eq_getElem (by omega)
      have e2 : xs.toList[n]? = some xs[n] := by rw [Array.getElem?_toList, e]
      rw [e2]
      simp [e]
  rw [h xs.size (Nat.le_refl _), List.take_of_length_le (by simp)]
def revS (z : Str) : Str := ⟨z.cps.toList.reverse.toArray⟩
/-- s[::-1] -/
def tRevS (te : TE) : TE := fun σ H Q => te σ H fun x H1 => ∃ z : Str, x = .str z ∧ z.length ≤ sizeLine ∧ Q (.str (revS z)) H1
theorem pe_revS {X : Cx} {e : Expr} {te : TE} {k : Nat} {p1 p2 p3 pos : Pos} (he : PE X e te) : PE X (.Subscript e (.Slice none none (some (.UnaryOp .USub (.Constant (.int 1) k p1) p2)) p3) pos) (tRevS te) := by
  refine ⟨fun pins s σ H Q I h => ?_⟩
  refine Subscript_ (thn (he.run pins s σ H _ I h) fun v s1 ⟨x, H1, I1, r1, q1⟩ => ?_)
  obtain ⟨z, ex, hz, q⟩ := q1
  subst ex
  obtain ⟨t, rfl⟩ := (show ∃ t, v = Value.str z t from r1)
  have hst : PO X (some (.UnaryOp .USub (.Constant (.int 1) k p1) p2)) (tPart (tUn (rU fun i => .int (-i)) (tC (.int 1)))) := po_some (pe_un un_neg pe_int)
  refine wpAny_Slice (thn (po_none.run pins s1 σ H1 (fun o H2 => o = none ∧ H2 = H1) I1 ⟨rfl, rfl⟩) fun vl s2 ⟨l, H2, I2, pl, el, e2⟩ => ?_)
  subst el e2
  refine thn (po_none.run pins s2 σ H2 (fun o H3 => o = none ∧ H3 = H2) I2 ⟨rfl, rfl⟩) fun vu s3 ⟨u, H3, I3, pu, eu, e3⟩ => ?_
  subst eu e3
  refine thn (hst.run pins s3 σ H3 (fun o H4 => o = some (-1) ∧ H4 = H3) I3 ⟨1, rfl, -1, rfl, rfl, rfl⟩) fun vs s4 ⟨o, H4, I4, ps, eo, e4⟩ => ?_
  subst eo e4
  have I5 : Inv X pins σ H4 { s4 with heap := s4.heap.push { cls := .type "slice", data := .fields #[vl, vu, vs] } } := I4.kept (t' := s4.toks) fun b ob q => Heap.get?_push_of_some _ q
  show wpAny (model X.prog X.w) X.A (subscriptTail e (.Slice none none (some (.UnaryOp .USub (.Constant (.int 1) k p1) p2)) p3) (.str z t) (.ref s4.heap.objs.size)) (EP X pins σ Q) X.xe { s4 with heap := s4.heap.push { cls := .type "slice", data := .fields #[vl, vu, vs] } }
  have hs := Heap.IsSliceOf.new s4.heap vl vu vs
  obtain ⟨os, hos, hcs, hds⟩ := hs
  obtain ⟨l, rfl, el⟩ := IsPart.raw pl
  obtain ⟨u, rfl, eu⟩ := IsPart.raw pu
  obtain ⟨st, rfl, est⟩ := IsPart.raw ps
  refine tail_any (ops := [.str z t, .ref s4.heap.objs.size]) (typeIs_str _ _ _) F.slot_str_getitem.lookup ?_ (by with_unfolding_all rfl)
  refine wpAny_getItem_str_slice (l := l) (u := u) (st := st) ⟨os, hos, hcs, hds⟩ (by rw [est]; rfl) ?_
  have key : (Builtin.Str.strSliceIndices (l.map (·.1)) (u.map (·.1)) ((st.map (·.1)).getD 1) z.length).filterMap (z.cps[·]?) = z.cps.toList.reverse := by
    rw [el, eu, est]
    show (Builtin.Str.strSliceIndices none none (-1) z.length).filterMap (z.cps[·]?) = _
    have e1 : Builtin.Str.strSliceIndices none none (-1) z.length = sliceRange ((z.length : Int) - 1) (-1) (-1) := rfl
    rw [e1, PySem.W.krv_sliceRange, PySem.W.krv_range, List.filterMap_reverse]
    exact congrArg List.reverse (rev_all z.cps)
  show Made.post (if (((st.map (·.1)).getD 1) == 1 && (Builtin.Str.strSliceIndices (l.map (·.1)) (u.map (·.1)) ((st.map (·.1)).getD 1) z.length).length == z.length) = true then Made.val (.str z t)
    else Made.str ⟨((Builtin.Str.strSliceIndices (l.map (·.1)) (u.map (·.1)) ((st.map (·.1)).getD 1) z.length).filterMap (z.cps[·]?)).toArray⟩) (EP X pins σ Q) _
  have hst1 : ((st.map (·.1)).getD 1) = -1 := by rw [est]; rfl
  rw [key, if_neg (by rw [hst1]; simp)]
  refine ⟨?_, .str _, H4, I5.tok _, ⟨_, rfl⟩, q⟩
  show (z.cps.toList.reverse.toArray).size ≤ sizeLine
  rw [List.size_toArray, List.length_reverse, Array.length_toList]
  exact hz
end CwR

/-! ## CwTop -/
/-! The program's defs by their places, and what its top leaves. -/
namespace Cw
open PySem PySem.Spec PyProof.Rows L2
def top (i : Nat) : Stmt := PySem.Challenge.pw_crosswalls_k77_whole_closed_floors_order.main.body.getD i (.Pass ⟨0, 0, 0, 0⟩)
abbrev s_is_integer : Stmt := top 13
abbrev s_is_list : Stmt := top 14
abbrev s_need_same : Stmt := top 15
abbrev s_are_letters : Stmt := top 17
abbrev s_ascending : Stmt := top 18
abbrev s_checked_pairs : Stmt := top 19
abbrev s_need_few : Stmt := top 21
abbrev s_crossing_table : Stmt := top 23
abbrev s_is_table_row : Stmt := top 25
abbrev s_table_rows : Stmt := top 26
abbrev s_need_entries : Stmt := top 27
abbrev s_need_exchanged : Stmt := top 28
abbrev s_found_places : Stmt := top 29
abbrev s_numbered_rows : Stmt := top 30
abbrev s_met_pairs : Stmt := top 33
abbrev s_following_pairs : Stmt := top 34
abbrev s_pair_floor : Stmt := top 35
abbrev s_joint_marks : Stmt := top 36
abbrev s_merged_row : Stmt := top 37
abbrev s_law_begin : Stmt := top 39
abbrev s_law_draw : Stmt := top 40
abbrev s_law_pick : Stmt := top 41
abbrev s_law_scene : Stmt := top 42
abbrev s_law_cross : Stmt := top 43
abbrev s_law_fit : Stmt := top 44
abbrev s_law_doors : Stmt := top 45
abbrev s_law_lists : Stmt := top 46
abbrev s_law_is_order : Stmt := top 47
abbrev s_law : Stmt := top 48
abbrev s_plan_init : Stmt := inClass (top 22) 0
abbrev s_plan_eq : Stmt := inClass (top 22) 2
abbrev s_closed_init : Stmt := inClass (top 32) 0
abbrev s_closed_len : Stmt := inClass (top 32) 2
abbrev s_closed_eq : Stmt := inClass (top 32) 3
abbrev s_closed_le : Stmt := inClass (top 32) 11
abbrev s_closed_and : Stmt := inClass (top 32) 12
abbrev s_closed_or : Stmt := inClass (top 32) 13
abbrev n_is_integer : List Str := ["value"]
theorem sc_is_integer : FnScope n_is_integer ["value"] (defScope s_is_integer) := ⟨rfl, rfl, rfl, by decide +kernel, rfl, by decide +kernel, by decide +kernel⟩
abbrev n_is_list : List Str := ["value"]
theorem sc_is_list : FnScope n_is_list ["value"] (defScope s_is_list) := ⟨rfl, rfl, rfl, by decide +kernel, rfl, by decide +kernel, by decide +kernel⟩
abbrev n_need_same : List Str := ["plan", "other"]
theorem sc_need_same : FnScope n_need_same ["plan", "other"] (defScope s_need_same) := ⟨rfl, rfl, rfl, by decide +kernel, rfl, by decide +kernel, by decide +kernel⟩
abbrev n_are_letters : List Str := ["value", "letter"]
theorem sc_are_letters : FnScope n_are_letters ["value"] (defScope s_are_letters) := ⟨rfl, rfl, rfl, by decide +kernel, rfl, by decide +kernel, by decide +kernel⟩
abbrev n_ascending : List Str := ["letters", "letter"]
theorem sc_ascending : FnScope n_ascending ["letters"] (defScope s_ascending) := ⟨rfl, rfl, rfl, by decide +kernel, rfl, by decide +kernel, by decide +kernel⟩
abbrev n_checked_pairs : List Str := ["kinds", "crossing", "found", "pair", "a", "b"]
theorem sc_checked_pairs : FnScope n_checked_pairs ["kinds", "crossing"] (defScope s_checked_pairs) := ⟨rfl, rfl, rfl, by decide +kernel, rfl, by decide +kernel, by decide +kernel⟩
abbrev n_need_few : List Str := ["kinds"]
theorem sc_need_few : FnScope n_need_few ["kinds"] (defScope s_need_few) := ⟨rfl, rfl, rfl, by decide +kernel, rfl, by decide +kernel, by decide +kernel⟩
abbrev n_crossing_table : List Str := ["kinds", "pairs", "found", "kind", "other"]
theorem sc_crossing_table : FnScope n_crossing_table ["kinds", "pairs"] (defScope s_crossing_table) := ⟨rfl, rfl, rfl, by decide +kernel, rfl, by decide +kernel, by decide +kernel⟩
abbrev n_is_table_row : List Str := ["value", "many", "entry"]
theorem sc_is_table_row : FnScope n_is_table_row ["value", "many"] (defScope s_is_table_row) := ⟨rfl, rfl, rfl, by decide +kernel, rfl, by decide +kernel, by decide +kernel⟩
abbrev n_table_rows : List Str := ["plan", "tables", "many", "row"]
theorem sc_table_rows : FnScope n_table_rows ["plan", "tables", "many"] (defScope s_table_rows) := ⟨rfl, rfl, rfl, by decide +kernel, rfl, by decide +kernel, by decide +kernel⟩
abbrev n_need_entries : List Str := ["plan", "rows", "turning", "kind", "row", "place", "entry"]
theorem sc_need_entries : FnScope n_need_entries ["plan", "rows", "turning"] (defScope s_need_entries) := ⟨rfl, rfl, rfl, by decide +kernel, rfl, by decide +kernel, by decide +kernel⟩
abbrev n_need_exchanged : List Str := ["plan", "rows", "many", "place", "pair", "one", "other"]
theorem sc_need_exchanged : FnScope n_need_exchanged ["plan", "rows"] (defScope s_need_exchanged) := ⟨rfl, rfl, rfl, by decide +kernel, rfl, by decide +kernel, by decide +kernel⟩
abbrev n_found_places : List Str := ["rows", "first", "found", "seen", "at", "row", "place"]
theorem sc_found_places : FnScope n_found_places ["rows", "first"] (defScope s_found_places) := ⟨rfl, rfl, rfl, by decide +kernel, rfl, by decide +kernel, by decide +kernel⟩
abbrev n_numbered_rows : List Str := ["rows", "first", "found", "numbers", "place", "at", "row"]
theorem sc_numbered_rows : FnScope n_numbered_rows ["rows", "first"] (defScope s_numbered_rows) := ⟨rfl, rfl, rfl, by decide +kernel, rfl, by decide +kernel, by decide +kernel⟩
abbrev n_met_pairs : List Str := ["one", "other", "found", "seen", "at", "pair"]
theorem sc_met_pairs : FnScope n_met_pairs ["one", "other"] (defScope s_met_pairs) := ⟨rfl, rfl, rfl, by decide +kernel, rfl, by decide +kernel, by decide +kernel⟩
abbrev n_following_pairs : List Str := ["one", "other", "pair", "row", "line"]
theorem sc_following_pairs : FnScope n_following_pairs ["one", "other", "pair"] (defScope s_following_pairs) := ⟨rfl, rfl, rfl, by decide +kernel, rfl, by decide +kernel, by decide +kernel⟩
abbrev n_pair_floor : List Str := ["one", "other", "pairs", "numbers", "rows", "pair", "at", "row"]
theorem sc_pair_floor : FnScope n_pair_floor ["one", "other", "pairs"] (defScope s_pair_floor) := ⟨rfl, rfl, rfl, by decide +kernel, rfl, by decide +kernel, by decide +kernel⟩
abbrev n_joint_marks : List Str := ["pairs", "marks", "changed", "side", "least", "mark", "pair", "lower", "at"]
theorem sc_joint_marks : FnScope n_joint_marks ["pairs"] (defScope s_joint_marks) := ⟨rfl, rfl, rfl, by decide +kernel, rfl, by decide +kernel, by decide +kernel⟩
abbrev n_merged_row : List Str := ["row", "marks", "numbers", "mark", "found", "place", "target", "at"]
theorem sc_merged_row : FnScope n_merged_row ["row", "marks"] (defScope s_merged_row) := ⟨rfl, rfl, rfl, by decide +kernel, rfl, by decide +kernel, by decide +kernel⟩
abbrev n_law_begin : List Str := ["_law_script"]
theorem sc_law_begin : FnScope n_law_begin ["_law_script"] (defScope s_law_begin) := ⟨rfl, rfl, rfl, by decide +kernel, rfl, by decide +kernel, by decide +kernel⟩
abbrev n_law_draw : List Str := ["_law_pen", "_law_span", "_law_digit", "_law_at", "_law_cell", "_law_n"]
theorem sc_law_draw : FnScope n_law_draw ["_law_pen", "_law_span"] (defScope s_law_draw) := ⟨rfl, rfl, rfl, by decide +kernel, rfl, by decide +kernel, by decide +kernel⟩
abbrev n_law_pick : List Str := ["_law_pen", "_law_some"]
theorem sc_law_pick : FnScope n_law_pick ["_law_pen", "_law_some"] (defScope s_law_pick) := ⟨rfl, rfl, rfl, by decide +kernel, rfl, by decide +kernel, by decide +kernel⟩
abbrev n_law_scene : List Str := ["_law_pen", "_law_least", "_law_most", "_law_many", "_law_first", "_law_step", "_law_letters", "_law_k", "_law_kinds", "_law_shape", "_law_pairs", "_law_j", "_law_near", "_law_menu", "_law_twin", "_law_pair"]
theorem sc_law_scene : FnScope n_law_scene ["_law_pen", "_law_least", "_law_most"] (defScope s_law_scene) := ⟨rfl, rfl, rfl, by decide +kernel, rfl, by decide +kernel, by decide +kernel⟩
abbrev n_law_cross : List Str := ["_law_scene_here", "_law_a", "_law_b"]
theorem sc_law_cross : FnScope n_law_cross ["_law_scene_here", "_law_a", "_law_b"] (defScope s_law_cross) := ⟨rfl, rfl, rfl, by decide +kernel, rfl, by decide +kernel, by decide +kernel⟩
abbrev n_law_fit : List Str := ["_law_scene_here", "_law_tables", "_law_door", "_law_one", "_law_two", "_law_pairs", "_law_todo", "_law_here", "_law_there", "_law_start", "_law_goal", "_law_other"]
theorem sc_law_fit : FnScope n_law_fit ["_law_scene_here", "_law_tables", "_law_door", "_law_one", "_law_two"] (defScope s_law_fit) := ⟨rfl, rfl, rfl, by decide +kernel, rfl, by decide +kernel, by decide +kernel⟩
abbrev n_law_doors : List Str := ["_law_pen", "_law_scene_here", "_law_many", "_law_tables", "_law_door", "_law_row", "_law_turn", "_law_pairs", "_law_place"]
theorem sc_law_doors : FnScope n_law_doors ["_law_pen", "_law_scene_here", "_law_many"] (defScope s_law_doors) := ⟨rfl, rfl, rfl, by decide +kernel, rfl, by decide +kernel, by decide +kernel⟩
abbrev n_law_lists : List Str := ["_law_scene_here", "_law_tables", "_law_door"]
theorem sc_law_lists : FnScope n_law_lists ["_law_scene_here", "_law_tables"] (defScope s_law_lists) := ⟨rfl, rfl, rfl, by decide +kernel, rfl, by decide +kernel, by decide +kernel⟩
abbrev n_law_is_order : List Str := ["_law_one", "_law_two", "_law_three"]
theorem sc_law_is_order : FnScope n_law_is_order ["_law_one", "_law_two", "_law_three"] (defScope s_law_is_order) := ⟨rfl, rfl, rfl, by decide +kernel, rfl, by decide +kernel, by decide +kernel⟩
abbrev n_law : List Str := ["_law_script", "_law_pen", "_law_turn", "_law_scene_here", "_law_floors", "_law_k", "_law_point", "_law_again", "_law_one", "_law_two", "_law_three", "_law_door"]
theorem sc_law : FnScope n_law ["_law_script"] (defScope s_law) := ⟨rfl, rfl, rfl, by decide +kernel, rfl, by decide +kernel, by decide +kernel⟩
abbrev n_plan_init : List Str := ["self", "kinds", "crossing"]
theorem sc_plan_init : FnScope n_plan_init ["self", "kinds", "crossing"] (defScope s_plan_init) := ⟨rfl, rfl, rfl, by decide +kernel, rfl, by decide +kernel, by decide +kernel⟩
abbrev n_plan_eq : List Str := ["self", "other"]
theorem sc_plan_eq : FnScope n_plan_eq ["self", "other"] (defScope s_plan_eq) := ⟨rfl, rfl, rfl, by decide +kernel, rfl, by decide +kernel, by decide +kernel⟩
abbrev n_closed_init : List Str := ["self", "plan", "tables", "rows"]
theorem sc_closed_init : FnScope n_closed_init ["self", "plan", "tables"] (defScope s_closed_init) := ⟨rfl, rfl, rfl, by decide +kernel, rfl, by decide +kernel, by decide +kernel⟩
abbrev n_closed_len : List Str := ["self"]
theorem sc_closed_len : FnScope n_closed_len ["self"] (defScope s_closed_len) := ⟨rfl, rfl, rfl, by decide +kernel, rfl, by decide +kernel, by decide +kernel⟩
abbrev n_closed_eq : List Str := ["self", "other"]
theorem sc_closed_eq : FnScope n_closed_eq ["self", "other"] (defScope s_closed_eq) := ⟨rfl, rfl, rfl, by decide +kernel, rfl, by decide +kernel, by decide +kernel⟩
abbrev n_closed_le : List Str := ["self", "other", "over", "one", "two"]
theorem sc_closed_le : FnScope n_closed_le ["self", "other"] (defScope s_closed_le) := ⟨rfl, rfl, rfl, by decide +kernel, rfl, by decide +kernel, by decide +kernel⟩
abbrev n_closed_and : List Str := ["self", "other"]
theorem sc_closed_and : FnScope n_closed_and ["self", "other"] (defScope s_closed_and) := ⟨rfl, rfl, rfl, by decide +kernel, rfl, by decide +kernel, by decide +kernel⟩
abbrev n_closed_or : List Str := ["self", "other", "pairs", "both", "marks", "row"]
theorem sc_closed_or : FnScope n_closed_or ["self", "other"] (defScope s_closed_or) := ⟨rfl, rfl, rfl, by decide +kernel, rfl, by decide +kernel, by decide +kernel⟩
/-- a class's instances, for isinstance -/
structure IsaOk (K : PySem.W.Frag) (C : Addr) : Prop where
  ha : PySem.W.findIn K (.ref C) "__class__" = some (some (.builtin "object.__class__"))
  hn : PySem.W.specialIn K (.builtin "object.__class__") "__get__" = some (some (.builtin "getset_descriptor.__get__"))
  ht : PySem.W.takesIn K (.builtin "object.__class__") = some true
  hm : PySem.W.mroIn K C (.type "object") = some true
/-- what the top has left -/
structure TF (K : PySem.W.Frag) (mg : Str → Option Value) where
  P : Addr
  C : Addr
  dE : Addr
  clP : Cls K P
  clC : Cls K C
  isP : IsaOk K P
  isC : IsaOk K C
  mgP : mg "Plan" = some (.ref P)
  mgC : mg "Closed" = some (.ref C)
  nfP : PySem.W.notFirst K P (.ref P) = true
  nfC : PySem.W.notFirst K C (.ref C) = true
  sfC : PySem.W.selfFirst K C = true
  neP : PySem.W.findIn K (.ref P) "__ne__" = some (some (.builtin "object.__ne__"))
  mkP : PySem.W.makesIn K P = true
  mkC : PySem.W.makesIn K C = true
  kpP : PySem.W.keepIn K (.ref P) = true
  kpC : PySem.W.keepIn K (.ref C) = true
  noP_kinds : NoAttr K P "kinds"
  noP_pairs : NoAttr K P "pairs"
  noP_own_crossing : NoAttr K P "own_crossing"
  noC_plan : NoAttr K C "plan"
  noC_tables : NoAttr K C "tables"
  noC_own_places : NoAttr K C "own_places"
  lettersT : Tok
  mgL : mg "LETTERS" = some (.str "abcdefghijklmnopqrstuvwxyz" lettersT)
  mostT : Tok
  mgM : mg "MOST_KINDS" = some (.int 8 mostT)
  z_isinstance : mg "isinstance" = none
  z_len : mg "len" = none
  z_all : mg "all" = none
  z_set : mg "set" = none
  z_tuple : mg "tuple" = none
  z_zip : mg "zip" = none
  z_enumerate : mg "enumerate" = none
  z_range : mg "range" = none
  z_int : mg "int" = none
  z_list : mg "list" = none
  z_min : mg "min" = none
  z_abs : mg "abs" = none
  z_str : mg "str" = none
  z_sorted : mg "sorted" = none
  z_bool : mg "bool" = none
  f_is_integer : Addr
  d_is_integer : FuncData
  F_is_integer : Fun K "is_integer" "is_integer" s_is_integer f_is_integer d_is_integer
  b_is_integer : Binds K d_is_integer ["value"] []
  m_is_integer : mg "is_integer" = some (.ref f_is_integer)
  f_is_list : Addr
  d_is_list : FuncData
  F_is_list : Fun K "is_list" "is_list" s_is_list f_is_list d_is_list
  b_is_list : Binds K d_is_list ["value"] []
  m_is_list : mg "is_list" = some (.ref f_is_list)
  f_need_same : Addr
  d_need_same : FuncData
  F_need_same : Fun K "need_same" "need_same" s_need_same f_need_same d_need_same
  b_need_same : Binds K d_need_same ["plan", "other"] []
  m_need_same : mg "need_same" = some (.ref f_need_same)
  f_are_letters : Addr
  d_are_letters : FuncData
  F_are_letters : Fun K "are_letters" "are_letters" s_are_letters f_are_letters d_are_letters
  b_are_letters : Binds K d_are_letters ["value"] []
  m_are_letters : mg "are_letters" = some (.ref f_are_letters)
  f_ascending : Addr
  d_ascending : FuncData
  F_ascending : Fun K "ascending" "ascending" s_ascending f_ascending d_ascending
  b_ascending : Binds K d_ascending ["letters"] []
  m_ascending : mg "ascending" = some (.ref f_ascending)
  f_checked_pairs : Addr
  d_checked_pairs : FuncData
  F_checked_pairs : Fun K "checked_pairs" "checked_pairs" s_checked_pairs f_checked_pairs d_checked_pairs
  b_checked_pairs : Binds K d_checked_pairs ["kinds", "crossing"] []
  m_checked_pairs : mg "checked_pairs" = some (.ref f_checked_pairs)
  f_need_few : Addr
  d_need_few : FuncData
  F_need_few : Fun K "need_few" "need_few" s_need_few f_need_few d_need_few
  b_need_few : Binds K d_need_few ["kinds"] []
  m_need_few : mg "need_few" = some (.ref f_need_few)
  f_crossing_table : Addr
  d_crossing_table : FuncData
  F_crossing_table : Fun K "crossing_table" "crossing_table" s_crossing_table f_crossing_table d_crossing_table
  b_crossing_table : Binds K d_crossing_table ["kinds", "pairs"] []
  m_crossing_table : mg "crossing_table" = some (.ref f_crossing_table)
  f_is_table_row : Addr
  d_is_table_row : FuncData
  F_is_table_row : Fun K "is_table_row" "is_table_row" s_is_table_row f_is_table_row d_is_table_row
  b_is_table_row : Binds K d_is_table_row ["value", "many"] []
  m_is_table_row : mg "is_table_row" = some (.ref f_is_table_row)
  f_table_rows : Addr
  d_table_rows : FuncData
  F_table_rows : Fun K "table_rows" "table_rows" s_table_rows f_table_rows d_table_rows
  b_table_rows : Binds K d_table_rows ["plan", "tables", "many"] []
  m_table_rows : mg "table_rows" = some (.ref f_table_rows)
  f_need_entries : Addr
  d_need_entries : FuncData
  F_need_entries : Fun K "need_entries" "need_entries" s_need_entries f_need_entries d_need_entries
  b_need_entries : Binds K d_need_entries ["plan", "rows", "turning"] []
  m_need_entries : mg "need_entries" = some (.ref f_need_entries)
  f_need_exchanged : Addr
  d_need_exchanged : FuncData
  F_need_exchanged : Fun K "need_exchanged" "need_exchanged" s_need_exchanged f_need_exchanged d_need_exchanged
  b_need_exchanged : Binds K d_need_exchanged ["plan", "rows"] []
  m_need_exchanged : mg "need_exchanged" = some (.ref f_need_exchanged)
  f_found_places : Addr
  d_found_places : FuncData
  F_found_places : Fun K "found_places" "found_places" s_found_places f_found_places d_found_places
  b_found_places : Binds K d_found_places ["rows", "first"] []
  m_found_places : mg "found_places" = some (.ref f_found_places)
  f_numbered_rows : Addr
  d_numbered_rows : FuncData
  F_numbered_rows : Fun K "numbered_rows" "numbered_rows" s_numbered_rows f_numbered_rows d_numbered_rows
  b_numbered_rows : Binds K d_numbered_rows ["rows", "first"] []
  m_numbered_rows : mg "numbered_rows" = some (.ref f_numbered_rows)
  f_met_pairs : Addr
  d_met_pairs : FuncData
  F_met_pairs : Fun K "met_pairs" "met_pairs" s_met_pairs f_met_pairs d_met_pairs
  b_met_pairs : Binds K d_met_pairs ["one", "other"] []
  m_met_pairs : mg "met_pairs" = some (.ref f_met_pairs)
  f_following_pairs : Addr
  d_following_pairs : FuncData
  F_following_pairs : Fun K "following_pairs" "following_pairs" s_following_pairs f_following_pairs d_following_pairs
  b_following_pairs : Binds K d_following_pairs ["one", "other", "pair"] []
  m_following_pairs : mg "following_pairs" = some (.ref f_following_pairs)
  f_pair_floor : Addr
  d_pair_floor : FuncData
  F_pair_floor : Fun K "pair_floor" "pair_floor" s_pair_floor f_pair_floor d_pair_floor
  b_pair_floor : Binds K d_pair_floor ["one", "other", "pairs"] []
  m_pair_floor : mg "pair_floor" = some (.ref f_pair_floor)
  f_joint_marks : Addr
  d_joint_marks : FuncData
  F_joint_marks : Fun K "joint_marks" "joint_marks" s_joint_marks f_joint_marks d_joint_marks
  b_joint_marks : Binds K d_joint_marks ["pairs"] []
  m_joint_marks : mg "joint_marks" = some (.ref f_joint_marks)
  f_merged_row : Addr
  d_merged_row : FuncData
  F_merged_row : Fun K "merged_row" "merged_row" s_merged_row f_merged_row d_merged_row
  b_merged_row : Binds K d_merged_row ["row", "marks"] []
  m_merged_row : mg "merged_row" = some (.ref f_merged_row)
  f_law_begin : Addr
  d_law_begin : FuncData
  F_law_begin : Fun K "_law_begin" "_law_begin" s_law_begin f_law_begin d_law_begin
  b_law_begin : Binds K d_law_begin ["_law_script"] []
  m_law_begin : mg "_law_begin" = some (.ref f_law_begin)
  f_law_draw : Addr
  d_law_draw : FuncData
  F_law_draw : Fun K "_law_draw" "_law_draw" s_law_draw f_law_draw d_law_draw
  b_law_draw : Binds K d_law_draw ["_law_pen", "_law_span"] []
  m_law_draw : mg "_law_draw" = some (.ref f_law_draw)
  f_law_pick : Addr
  d_law_pick : FuncData
  F_law_pick : Fun K "_law_pick" "_law_pick" s_law_pick f_law_pick d_law_pick
  b_law_pick : Binds K d_law_pick ["_law_pen", "_law_some"] []
  m_law_pick : mg "_law_pick" = some (.ref f_law_pick)
  f_law_scene : Addr
  d_law_scene : FuncData
  F_law_scene : Fun K "_law_scene" "_law_scene" s_law_scene f_law_scene d_law_scene
  b_law_scene : Binds K d_law_scene ["_law_pen", "_law_least", "_law_most"] []
  m_law_scene : mg "_law_scene" = some (.ref f_law_scene)
  f_law_cross : Addr
  d_law_cross : FuncData
  F_law_cross : Fun K "_law_cross" "_law_cross" s_law_cross f_law_cross d_law_cross
  b_law_cross : Binds K d_law_cross ["_law_scene_here", "_law_a", "_law_b"] []
  m_law_cross : mg "_law_cross" = some (.ref f_law_cross)
  f_law_fit : Addr
  d_law_fit : FuncData
  F_law_fit : Fun K "_law_fit" "_law_fit" s_law_fit f_law_fit d_law_fit
  b_law_fit : Binds K d_law_fit ["_law_scene_here", "_law_tables", "_law_door", "_law_one", "_law_two"] []
  m_law_fit : mg "_law_fit" = some (.ref f_law_fit)
  f_law_doors : Addr
  d_law_doors : FuncData
  F_law_doors : Fun K "_law_doors" "_law_doors" s_law_doors f_law_doors d_law_doors
  b_law_doors : Binds K d_law_doors ["_law_pen", "_law_scene_here", "_law_many"] []
  m_law_doors : mg "_law_doors" = some (.ref f_law_doors)
  f_law_lists : Addr
  d_law_lists : FuncData
  F_law_lists : Fun K "_law_lists" "_law_lists" s_law_lists f_law_lists d_law_lists
  b_law_lists : Binds K d_law_lists ["_law_scene_here", "_law_tables"] []
  m_law_lists : mg "_law_lists" = some (.ref f_law_lists)
  f_law_is_order : Addr
  d_law_is_order : FuncData
  F_law_is_order : Fun K "_law_is_order" "_law_is_order" s_law_is_order f_law_is_order d_law_is_order
  b_law_is_order : Binds K d_law_is_order ["_law_one", "_law_two", "_law_three"] []
  m_law_is_order : mg "_law_is_order" = some (.ref f_law_is_order)
  f_law : Addr
  d_law : FuncData
  F_law : Fun K "law" "law" s_law f_law d_law
  b_law : Binds K d_law ["_law_script"] []
  m_law : mg "law" = some (.ref f_law)
  f_plan_init : Addr
  d_plan_init : FuncData
  F_plan_init : FunD K "__init__" "Plan.__init__" (defArgs s_plan_init) (defBody s_plan_init) (defScope s_plan_init) [.ref dE] [] f_plan_init d_plan_init
  b_plan_init : Binds K d_plan_init ["self", "kinds", "crossing"] []
  m_plan_init : PySem.W.findIn K (.ref P) "__init__" = some (some (.ref f_plan_init))
  i_plan_init : PySem.W.isFn K (.ref f_plan_init) = true
  f_plan_eq : Addr
  d_plan_eq : FuncData
  F_plan_eq : Fun K "__eq__" "Plan.__eq__" s_plan_eq f_plan_eq d_plan_eq
  b_plan_eq : Binds K d_plan_eq ["self", "other"] []
  m_plan_eq : PySem.W.findIn K (.ref P) "__eq__" = some (some (.ref f_plan_eq))
  i_plan_eq : PySem.W.isFn K (.ref f_plan_eq) = true
  f_closed_init : Addr
  d_closed_init : FuncData
  F_closed_init : Fun K "__init__" "Closed.__init__" s_closed_init f_closed_init d_closed_init
  b_closed_init : Binds K d_closed_init ["self", "plan", "tables"] []
  m_closed_init : PySem.W.findIn K (.ref C) "__init__" = some (some (.ref f_closed_init))
  i_closed_init : PySem.W.isFn K (.ref f_closed_init) = true
  f_closed_len : Addr
  d_closed_len : FuncData
  F_closed_len : Fun K "__len__" "Closed.__len__" s_closed_len f_closed_len d_closed_len
  b_closed_len : Binds K d_closed_len ["self"] []
  m_closed_len : PySem.W.findIn K (.ref C) "__len__" = some (some (.ref f_closed_len))
  i_closed_len : PySem.W.isFn K (.ref f_closed_len) = true
  f_closed_eq : Addr
  d_closed_eq : FuncData
  F_closed_eq : Fun K "__eq__" "Closed.__eq__" s_closed_eq f_closed_eq d_closed_eq
  b_closed_eq : Binds K d_closed_eq ["self", "other"] []
  m_closed_eq : PySem.W.findIn K (.ref C) "__eq__" = some (some (.ref f_closed_eq))
  i_closed_eq : PySem.W.isFn K (.ref f_closed_eq) = true
  f_closed_le : Addr
  d_closed_le : FuncData
  F_closed_le : Fun K "__le__" "Closed.__le__" s_closed_le f_closed_le d_closed_le
  b_closed_le : Binds K d_closed_le ["self", "other"] []
  m_closed_le : PySem.W.findIn K (.ref C) "__le__" = some (some (.ref f_closed_le))
  i_closed_le : PySem.W.isFn K (.ref f_closed_le) = true
  f_closed_and : Addr
  d_closed_and : FuncData
  F_closed_and : Fun K "__and__" "Closed.__and__" s_closed_and f_closed_and d_closed_and
  b_closed_and : Binds K d_closed_and ["self", "other"] []
  m_closed_and : PySem.W.findIn K (.ref C) "__and__" = some (some (.ref f_closed_and))
  i_closed_and : PySem.W.isFn K (.ref f_closed_and) = true
  f_closed_or : Addr
  d_closed_or : FuncData
  F_closed_or : Fun K "__or__" "Closed.__or__" s_closed_or f_closed_or d_closed_or
  b_closed_or : Binds K d_closed_or ["self", "other"] []
  m_closed_or : PySem.W.findIn K (.ref C) "__or__" = some (some (.ref f_closed_or))
  i_closed_or : PySem.W.isFn K (.ref f_closed_or) = true
section
variable {K : PySem.W.Frag} {h : Heap} {mg : Str → Option Value}
theorem all_mk {P C dE dT : Addr} {dO : Value} {dD : Option Addr} {dN : Nat} {dS : Array (Option Value)} {lT mT : Tok} {f_is_integer : Addr} {od_is_integer an_is_integer : Option Addr} {sl_is_integer : Array (Option Value)} {oc_is_integer kV_is_integer dc_is_integer pm_is_integer cd_is_integer ct_is_integer : Value} {f_is_list : Addr} {od_is_list an_is_list : Option Addr} {sl_is_list : Array (Option Value)} {oc_is_list kV_is_list dc_is_list pm_is_list cd_is_list ct_is_list : Value} {f_need_same : Addr} {od_need_same an_need_same : Option Addr} {sl_need_same : Array (Option Value)} {oc_need_same kV_need_same dc_need_same pm_need_same cd_need_same ct_need_same : Value} {f_are_letters : Addr} {od_are_letters an_are_letters : Option Addr} {sl_are_letters : Array (Option Value)} {oc_are_letters kV_are_letters dc_are_letters pm_are_letters cd_are_letters ct_are_letters : Value} {f_ascending : Addr} {od_ascending an_ascending : Option Addr} {sl_ascending : Array (Option Value)} {oc_ascending kV_ascending dc_ascending pm_ascending cd_ascending ct_ascending : Value} {f_checked_pairs : Addr} {od_checked_pairs an_checked_pairs : Option Addr} {sl_checked_pairs : Array (Option Value)} {oc_checked_pairs kV_checked_pairs dc_checked_pairs pm_checked_pairs cd_checked_pairs ct_checked_pairs : Value} {f_need_few : Addr} {od_need_few an_need_few : Option Addr} {sl_need_few : Array (Option Value)} {oc_need_few kV_need_few dc_need_few pm_need_few cd_need_few ct_need_few : Value} {f_crossing_table : Addr} {od_crossing_table an_crossing_table : Option Addr} {sl_crossing_table : Array (Option Value)} {oc_crossing_table kV_crossing_table dc_crossing_table pm_crossing_table cd_crossing_table ct_crossing_table : Value} {f_is_table_row : Addr} {od_is_table_row an_is_table_row : Option Addr} {sl_is_table_row : Array (Option Value)} {oc_is_table_row kV_is_table_row dc_is_table_row pm_is_table_row cd_is_table_row ct_is_table_row : Value} {f_table_rows : Addr} {od_table_rows an_table_rows : Option Addr} {sl_table_rows : Array (Option Value)} {oc_table_rows kV_table_rows dc_table_rows pm_table_rows cd_table_rows ct_table_rows : Value} {f_need_entries : Addr} {od_need_entries an_need_entries : Option Addr} {sl_need_entries : Array (Option Value)} {oc_need_entries kV_need_entries dc_need_entries pm_need_entries cd_need_entries ct_need_entries : Value} {f_need_exchanged : Addr} {od_need_exchanged an_need_exchanged : Option Addr} {sl_need_exchanged : Array (Option Value)} {oc_need_exchanged kV_need_exchanged dc_need_exchanged pm_need_exchanged cd_need_exchanged ct_need_exchanged : Value} {f_found_places : Addr} {od_found_places an_found_places : Option Addr} {sl_found_places : Array (Option Value)} {oc_found_places kV_found_places dc_found_places pm_found_places cd_found_places ct_found_places : Value} {f_numbered_rows : Addr} {od_numbered_rows an_numbered_rows : Option Addr} {sl_numbered_rows : Array (Option Value)} {oc_numbered_rows kV_numbered_rows dc_numbered_rows pm_numbered_rows cd_numbered_rows ct_numbered_rows : Value} {f_met_pairs : Addr} {od_met_pairs an_met_pairs : Option Addr} {sl_met_pairs : Array (Option Value)} {oc_met_pairs kV_met_pairs dc_met_pairs pm_met_pairs cd_met_pairs ct_met_pairs : Value} {f_following_pairs : Addr} {od_following_pairs an_following_pairs : Option Addr} {sl_following_pairs : Array (Option Value)} {oc_following_pairs kV_following_pairs dc_following_pairs pm_following_pairs cd_following_pairs ct_following_pairs : Value} {f_pair_floor : Addr} {od_pair_floor an_pair_floor : Option Addr} {sl_pair_floor : Array (Option Value)} {oc_pair_floor kV_pair_floor dc_pair_floor pm_pair_floor cd_pair_floor ct_pair_floor : Value} {f_joint_marks : Addr} {od_joint_marks an_joint_marks : Option Addr} {sl_joint_marks : Array (Option Value)} {oc_joint_marks kV_joint_marks dc_joint_marks pm_joint_marks cd_joint_marks ct_joint_marks : Value} {f_merged_row : Addr} {od_merged_row an_merged_row : Option Addr} {sl_merged_row : Array (Option Value)} {oc_merged_row kV_merged_row dc_merged_row pm_merged_row cd_merged_row ct_merged_row : Value} {f_law_begin : Addr} {od_law_begin an_law_begin : Option Addr} {sl_law_begin : Array (Option Value)} {oc_law_begin kV_law_begin dc_law_begin pm_law_begin cd_law_begin ct_law_begin : Value} {f_law_draw : Addr} {od_law_draw an_law_draw : Option Addr} {sl_law_draw : Array (Option Value)} {oc_law_draw kV_law_draw dc_law_draw pm_law_draw cd_law_draw ct_law_draw : Value} {f_law_pick : Addr} {od_law_pick an_law_pick : Option Addr} {sl_law_pick : Array (Option Value)} {oc_law_pick kV_law_pick dc_law_pick pm_law_pick cd_law_pick ct_law_pick : Value} {f_law_scene : Addr} {od_law_scene an_law_scene : Option Addr} {sl_law_scene : Array (Option Value)} {oc_law_scene kV_law_scene dc_law_scene pm_law_scene cd_law_scene ct_law_scene : Value} {f_law_cross : Addr} {od_law_cross an_law_cross : Option Addr} {sl_law_cross : Array (Option Value)} {oc_law_cross kV_law_cross dc_law_cross pm_law_cross cd_law_cross ct_law_cross : Value} {f_law_fit : Addr} {od_law_fit an_law_fit : Option Addr} {sl_law_fit : Array (Option Value)} {oc_law_fit kV_law_fit dc_law_fit pm_law_fit cd_law_fit ct_law_fit : Value} {f_law_doors : Addr} {od_law_doors an_law_doors : Option Addr} {sl_law_doors : Array (Option Value)} {oc_law_doors kV_law_doors dc_law_doors pm_law_doors cd_law_doors ct_law_doors : Value} {f_law_lists : Addr} {od_law_lists an_law_lists : Option Addr} {sl_law_lists : Array (Option Value)} {oc_law_lists kV_law_lists dc_law_lists pm_law_lists cd_law_lists ct_law_lists : Value} {f_law_is_order : Addr} {od_law_is_order an_law_is_order : Option Addr} {sl_law_is_order : Array (Option Value)} {oc_law_is_order kV_law_is_order dc_law_is_order pm_law_is_order cd_law_is_order ct_law_is_order : Value} {f_law : Addr} {od_law an_law : Option Addr} {sl_law : Array (Option Value)} {oc_law kV_law dc_law pm_law cd_law ct_law : Value} {f_plan_init : Addr} {od_plan_init an_plan_init : Option Addr} {sl_plan_init : Array (Option Value)} {oc_plan_init kV_plan_init dc_plan_init pm_plan_init cd_plan_init ct_plan_init : Value} {f_plan_eq : Addr} {od_plan_eq an_plan_eq : Option Addr} {sl_plan_eq : Array (Option Value)} {oc_plan_eq kV_plan_eq dc_plan_eq pm_plan_eq cd_plan_eq ct_plan_eq : Value} {f_closed_init : Addr} {od_closed_init an_closed_init : Option Addr} {sl_closed_init : Array (Option Value)} {oc_closed_init kV_closed_init dc_closed_init pm_closed_init cd_closed_init ct_closed_init : Value} {f_closed_len : Addr} {od_closed_len an_closed_len : Option Addr} {sl_closed_len : Array (Option Value)} {oc_closed_len kV_closed_len dc_closed_len pm_closed_len cd_closed_len ct_closed_len : Value} {f_closed_eq : Addr} {od_closed_eq an_closed_eq : Option Addr} {sl_closed_eq : Array (Option Value)} {oc_closed_eq kV_closed_eq dc_closed_eq pm_closed_eq cd_closed_eq ct_closed_eq : Value} {f_closed_le : Addr} {od_closed_le an_closed_le : Option Addr} {sl_closed_le : Array (Option Value)} {oc_closed_le kV_closed_le dc_closed_le pm_closed_le cd_closed_le ct_closed_le : Value} {f_closed_and : Addr} {od_closed_and an_closed_and : Option Addr} {sl_closed_and : Array (Option Value)} {oc_closed_and kV_closed_and dc_closed_and pm_closed_and cd_closed_and ct_closed_and : Value} {f_closed_or : Addr} {od_closed_or an_closed_or : Option Addr} {sl_closed_or : Array (Option Value)} {oc_closed_or kV_closed_or dc_closed_or pm_closed_or cd_closed_or ct_closed_or : Value} (X : K.In h) (G : h.Ns mainGlobals mg)
    (aP : PySem.W.nsIn K mainGlobals "Plan" = some (some (.ref P)))
    (aC : PySem.W.nsIn K mainGlobals "Closed" = some (some (.ref C)))
    (pgP : PySem.W.plainGet K P Str.empty = true)
    (hdP : PySem.W.hasDictIn K P = true)
    (poP : PySem.W.plainOver K P = true)
    (saP : PySem.W.findIn K (.ref P) "__setattr__" = some (some (.builtin "object.__setattr__")))
    (mkP : PySem.W.makesIn K P = true)
    (kcP : PySem.W.keepIn K (.ref P) = true)
    (iaP : PySem.W.findIn K (.ref P) "__class__" = some (some (.builtin "object.__class__")))
    (imP : PySem.W.mroIn K P (.type "object") = some true)
    (nfP : PySem.W.notFirst K P (.ref P) = true)
    (noP_kinds : PySem.W.findIn K (.ref P) "kinds" = some none)
    (noP_pairs : PySem.W.findIn K (.ref P) "pairs" = some none)
    (noP_own_crossing : PySem.W.findIn K (.ref P) "own_crossing" = some none)
    (pgC : PySem.W.plainGet K C Str.empty = true)
    (hdC : PySem.W.hasDictIn K C = true)
    (poC : PySem.W.plainOver K C = true)
    (saC : PySem.W.findIn K (.ref C) "__setattr__" = some (some (.builtin "object.__setattr__")))
    (mkC : PySem.W.makesIn K C = true)
    (kcC : PySem.W.keepIn K (.ref C) = true)
    (iaC : PySem.W.findIn K (.ref C) "__class__" = some (some (.builtin "object.__class__")))
    (imC : PySem.W.mroIn K C (.type "object") = some true)
    (nfC : PySem.W.notFirst K C (.ref C) = true)
    (noC_plan : PySem.W.findIn K (.ref C) "plan" = some none)
    (noC_tables : PySem.W.findIn K (.ref C) "tables" = some none)
    (noC_own_places : PySem.W.findIn K (.ref C) "own_places" = some none)
    (sfC : PySem.W.selfFirst K C = true)
    (neP : PySem.W.findIn K (.ref P) "__ne__" = some (some (.builtin "object.__ne__")))
    (ign : PySem.W.specialIn K (.builtin "object.__class__") "__get__" = some (some (.builtin "getset_descriptor.__get__")))
    (igt : PySem.W.takesIn K (.builtin "object.__class__") = some true)
    (aL : PySem.W.nsIn K mainGlobals "LETTERS" = some (some (.str "abcdefghijklmnopqrstuvwxyz" lT)))
    (aM : PySem.W.nsIn K mainGlobals "MOST_KINDS" = some (some (.int 8 mT)))
    (z_isinstance : PySem.W.nsIn K mainGlobals "isinstance" = some none)
    (z_len : PySem.W.nsIn K mainGlobals "len" = some none)
    (z_all : PySem.W.nsIn K mainGlobals "all" = some none)
    (z_set : PySem.W.nsIn K mainGlobals "set" = some none)
    (z_tuple : PySem.W.nsIn K mainGlobals "tuple" = some none)
    (z_zip : PySem.W.nsIn K mainGlobals "zip" = some none)
    (z_enumerate : PySem.W.nsIn K mainGlobals "enumerate" = some none)
    (z_range : PySem.W.nsIn K mainGlobals "range" = some none)
    (z_int : PySem.W.nsIn K mainGlobals "int" = some none)
    (z_list : PySem.W.nsIn K mainGlobals "list" = some none)
    (z_min : PySem.W.nsIn K mainGlobals "min" = some none)
    (z_abs : PySem.W.nsIn K mainGlobals "abs" = some none)
    (z_str : PySem.W.nsIn K mainGlobals "str" = some none)
    (z_sorted : PySem.W.nsIn K mainGlobals "sorted" = some none)
    (z_bool : PySem.W.nsIn K mainGlobals "bool" = some none)
    (a_is_integer : PySem.W.nsIn K mainGlobals "is_integer" = some (some (.ref f_is_integer)))
    (l_is_integer : K.lookup f_is_integer = some ⟨oc_is_integer, od_is_integer, .func (PySem.W.fnOf "is_integer" "is_integer" (defArgs s_is_integer) (defBody s_is_integer) (defScope s_is_integer) .none kV_is_integer dc_is_integer pm_is_integer an_is_integer cd_is_integer ct_is_integer), sl_is_integer⟩)
    (c_is_integer : PySem.W.codeIn K cd_is_integer "is_integer" = true)
    (k_is_integer : PySem.W.keepIn K (.ref f_is_integer) = true)
    (a_is_list : PySem.W.nsIn K mainGlobals "is_list" = some (some (.ref f_is_list)))
    (l_is_list : K.lookup f_is_list = some ⟨oc_is_list, od_is_list, .func (PySem.W.fnOf "is_list" "is_list" (defArgs s_is_list) (defBody s_is_list) (defScope s_is_list) .none kV_is_list dc_is_list pm_is_list an_is_list cd_is_list ct_is_list), sl_is_list⟩)
    (c_is_list : PySem.W.codeIn K cd_is_list "is_list" = true)
    (k_is_list : PySem.W.keepIn K (.ref f_is_list) = true)
    (a_need_same : PySem.W.nsIn K mainGlobals "need_same" = some (some (.ref f_need_same)))
    (l_need_same : K.lookup f_need_same = some ⟨oc_need_same, od_need_same, .func (PySem.W.fnOf "need_same" "need_same" (defArgs s_need_same) (defBody s_need_same) (defScope s_need_same) .none kV_need_same dc_need_same pm_need_same an_need_same cd_need_same ct_need_same), sl_need_same⟩)
    (c_need_same : PySem.W.codeIn K cd_need_same "need_same" = true)
    (k_need_same : PySem.W.keepIn K (.ref f_need_same) = true)
    (a_are_letters : PySem.W.nsIn K mainGlobals "are_letters" = some (some (.ref f_are_letters)))
    (l_are_letters : K.lookup f_are_letters = some ⟨oc_are_letters, od_are_letters, .func (PySem.W.fnOf "are_letters" "are_letters" (defArgs s_are_letters) (defBody s_are_letters) (defScope s_are_letters) .none kV_are_letters dc_are_letters pm_are_letters an_are_letters cd_are_letters ct_are_letters), sl_are_letters⟩)
    (c_are_letters : PySem.W.codeIn K cd_are_letters "are_letters" = true)
    (k_are_letters : PySem.W.keepIn K (.ref f_are_letters) = true)
    (a_ascending : PySem.W.nsIn K mainGlobals "ascending" = some (some (.ref f_ascending)))
    (l_ascending : K.lookup f_ascending = some ⟨oc_ascending, od_ascending, .func (PySem.W.fnOf "ascending" "ascending" (defArgs s_ascending) (defBody s_ascending) (defScope s_ascending) .none kV_ascending dc_ascending pm_ascending an_ascending cd_ascending ct_ascending), sl_ascending⟩)
    (c_ascending : PySem.W.codeIn K cd_ascending "ascending" = true)
    (k_ascending : PySem.W.keepIn K (.ref f_ascending) = true)
    (a_checked_pairs : PySem.W.nsIn K mainGlobals "checked_pairs" = some (some (.ref f_checked_pairs)))
    (l_checked_pairs : K.lookup f_checked_pairs = some ⟨oc_checked_pairs, od_checked_pairs, .func (PySem.W.fnOf "checked_pairs" "checked_pairs" (defArgs s_checked_pairs) (defBody s_checked_pairs) (defScope s_checked_pairs) .none kV_checked_pairs dc_checked_pairs pm_checked_pairs an_checked_pairs cd_checked_pairs ct_checked_pairs), sl_checked_pairs⟩)
    (c_checked_pairs : PySem.W.codeIn K cd_checked_pairs "checked_pairs" = true)
    (k_checked_pairs : PySem.W.keepIn K (.ref f_checked_pairs) = true)
    (a_need_few : PySem.W.nsIn K mainGlobals "need_few" = some (some (.ref f_need_few)))
    (l_need_few : K.lookup f_need_few = some ⟨oc_need_few, od_need_few, .func (PySem.W.fnOf "need_few" "need_few" (defArgs s_need_few) (defBody s_need_few) (defScope s_need_few) .none kV_need_few dc_need_few pm_need_few an_need_few cd_need_few ct_need_few), sl_need_few⟩)
    (c_need_few : PySem.W.codeIn K cd_need_few "need_few" = true)
    (k_need_few : PySem.W.keepIn K (.ref f_need_few) = true)
    (a_crossing_table : PySem.W.nsIn K mainGlobals "crossing_table" = some (some (.ref f_crossing_table)))
    (l_crossing_table : K.lookup f_crossing_table = some ⟨oc_crossing_table, od_crossing_table, .func (PySem.W.fnOf "crossing_table" "crossing_table" (defArgs s_crossing_table) (defBody s_crossing_table) (defScope s_crossing_table) .none kV_crossing_table dc_crossing_table pm_crossing_table an_crossing_table cd_crossing_table ct_crossing_table), sl_crossing_table⟩)
    (c_crossing_table : PySem.W.codeIn K cd_crossing_table "crossing_table" = true)
    (k_crossing_table : PySem.W.keepIn K (.ref f_crossing_table) = true)
    (a_is_table_row : PySem.W.nsIn K mainGlobals "is_table_row" = some (some (.ref f_is_table_row)))
    (l_is_table_row : K.lookup f_is_table_row = some ⟨oc_is_table_row, od_is_table_row, .func (PySem.W.fnOf "is_table_row" "is_table_row" (defArgs s_is_table_row) (defBody s_is_table_row) (defScope s_is_table_row) .none kV_is_table_row dc_is_table_row pm_is_table_row an_is_table_row cd_is_table_row ct_is_table_row), sl_is_table_row⟩)
    (c_is_table_row : PySem.W.codeIn K cd_is_table_row "is_table_row" = true)
    (k_is_table_row : PySem.W.keepIn K (.ref f_is_table_row) = true)
    (a_table_rows : PySem.W.nsIn K mainGlobals "table_rows" = some (some (.ref f_table_rows)))
    (l_table_rows : K.lookup f_table_rows = some ⟨oc_table_rows, od_table_rows, .func (PySem.W.fnOf "table_rows" "table_rows" (defArgs s_table_rows) (defBody s_table_rows) (defScope s_table_rows) .none kV_table_rows dc_table_rows pm_table_rows an_table_rows cd_table_rows ct_table_rows), sl_table_rows⟩)
    (c_table_rows : PySem.W.codeIn K cd_table_rows "table_rows" = true)
    (k_table_rows : PySem.W.keepIn K (.ref f_table_rows) = true)
    (a_need_entries : PySem.W.nsIn K mainGlobals "need_entries" = some (some (.ref f_need_entries)))
    (l_need_entries : K.lookup f_need_entries = some ⟨oc_need_entries, od_need_entries, .func (PySem.W.fnOf "need_entries" "need_entries" (defArgs s_need_entries) (defBody s_need_entries) (defScope s_need_entries) .none kV_need_entries dc_need_entries pm_need_entries an_need_entries cd_need_entries ct_need_entries), sl_need_entries⟩)
    (c_need_entries : PySem.W.codeIn K cd_need_entries "need_entries" = true)
    (k_need_entries : PySem.W.keepIn K (.ref f_need_entries) = true)
    (a_need_exchanged : PySem.W.nsIn K mainGlobals "need_exchanged" = some (some (.ref f_need_exchanged)))
    (l_need_exchanged : K.lookup f_need_exchanged = some ⟨oc_need_exchanged, od_need_exchanged, .func (PySem.W.fnOf "need_exchanged" "need_exchanged" (defArgs s_need_exchanged) (defBody s_need_exchanged) (defScope s_need_exchanged) .none kV_need_exchanged dc_need_exchanged pm_need_exchanged an_need_exchanged cd_need_exchanged ct_need_exchanged), sl_need_exchanged⟩)
    (c_need_exchanged : PySem.W.codeIn K cd_need_exchanged "need_exchanged" = true)
    (k_need_exchanged : PySem.W.keepIn K (.ref f_need_exchanged) = true)
    (a_found_places : PySem.W.nsIn K mainGlobals "found_places" = some (some (.ref f_found_places)))
    (l_found_places : K.lookup f_found_places = some ⟨oc_found_places, od_found_places, .func (PySem.W.fnOf "found_places" "found_places" (defArgs s_found_places) (defBody s_found_places) (defScope s_found_places) .none kV_found_places dc_found_places pm_found_places an_found_places cd_found_places ct_found_places), sl_found_places⟩)
    (c_found_places : PySem.W.codeIn K cd_found_places "found_places" = true)
    (k_found_places : PySem.W.keepIn K (.ref f_found_places) = true)
    (a_numbered_rows : PySem.W.nsIn K mainGlobals "numbered_rows" = some (some (.ref f_numbered_rows)))
    (l_numbered_rows : K.lookup f_numbered_rows = some ⟨oc_numbered_rows, od_numbered_rows, .func (PySem.W.fnOf "numbered_rows" "numbered_rows" (defArgs s_numbered_rows) (defBody s_numbered_rows) (defScope s_numbered_rows) .none kV_numbered_rows dc_numbered_rows pm_numbered_rows an_numbered_rows cd_numbered_rows ct_numbered_rows), sl_numbered_rows⟩)
    (c_numbered_rows : PySem.W.codeIn K cd_numbered_rows "numbered_rows" = true)
    (k_numbered_rows : PySem.W.keepIn K (.ref f_numbered_rows) = true)
    (a_met_pairs : PySem.W.nsIn K mainGlobals "met_pairs" = some (some (.ref f_met_pairs)))
    (l_met_pairs : K.lookup f_met_pairs = some ⟨oc_met_pairs, od_met_pairs, .func (PySem.W.fnOf "met_pairs" "met_pairs" (defArgs s_met_pairs) (defBody s_met_pairs) (defScope s_met_pairs) .none kV_met_pairs dc_met_pairs pm_met_pairs an_met_pairs cd_met_pairs ct_met_pairs), sl_met_pairs⟩)
    (c_met_pairs : PySem.W.codeIn K cd_met_pairs "met_pairs" = true)
    (k_met_pairs : PySem.W.keepIn K (.ref f_met_pairs) = true)
    (a_following_pairs : PySem.W.nsIn K mainGlobals "following_pairs" = some (some (.ref f_following_pairs)))
    (l_following_pairs : K.lookup f_following_pairs = some ⟨oc_following_pairs, od_following_pairs, .func (PySem.W.fnOf "following_pairs" "following_pairs" (defArgs s_following_pairs) (defBody s_following_pairs) (defScope s_following_pairs) .none kV_following_pairs dc_following_pairs pm_following_pairs an_following_pairs cd_following_pairs ct_following_pairs), sl_following_pairs⟩)
    (c_following_pairs : PySem.W.codeIn K cd_following_pairs "following_pairs" = true)
    (k_following_pairs : PySem.W.keepIn K (.ref f_following_pairs) = true)
    (a_pair_floor : PySem.W.nsIn K mainGlobals "pair_floor" = some (some (.ref f_pair_floor)))
    (l_pair_floor : K.lookup f_pair_floor = some ⟨oc_pair_floor, od_pair_floor, .func (PySem.W.fnOf "pair_floor" "pair_floor" (defArgs s_pair_floor) (defBody s_pair_floor) (defScope s_pair_floor) .none kV_pair_floor dc_pair_floor pm_pair_floor an_pair_floor cd_pair_floor ct_pair_floor), sl_pair_floor⟩)
    (c_pair_floor : PySem.W.codeIn K cd_pair_floor "pair_floor" = true)
    (k_pair_floor : PySem.W.keepIn K (.ref f_pair_floor) = true)
    (a_joint_marks : PySem.W.nsIn K mainGlobals "joint_marks" = some (some (.ref f_joint_marks)))
    (l_joint_marks : K.lookup f_joint_marks = some ⟨oc_joint_marks, od_joint_marks, .func (PySem.W.fnOf "joint_marks" "joint_marks" (defArgs s_joint_marks) (defBody s_joint_marks) (defScope s_joint_marks) .none kV_joint_marks dc_joint_marks pm_joint_marks an_joint_marks cd_joint_marks ct_joint_marks), sl_joint_marks⟩)
    (c_joint_marks : PySem.W.codeIn K cd_joint_marks "joint_marks" = true)
    (k_joint_marks : PySem.W.keepIn K (.ref f_joint_marks) = true)
    (a_merged_row : PySem.W.nsIn K mainGlobals "merged_row" = some (some (.ref f_merged_row)))
    (l_merged_row : K.lookup f_merged_row = some ⟨oc_merged_row, od_merged_row, .func (PySem.W.fnOf "merged_row" "merged_row" (defArgs s_merged_row) (defBody s_merged_row) (defScope s_merged_row) .none kV_merged_row dc_merged_row pm_merged_row an_merged_row cd_merged_row ct_merged_row), sl_merged_row⟩)
    (c_merged_row : PySem.W.codeIn K cd_merged_row "merged_row" = true)
    (k_merged_row : PySem.W.keepIn K (.ref f_merged_row) = true)
    (a_law_begin : PySem.W.nsIn K mainGlobals "_law_begin" = some (some (.ref f_law_begin)))
    (l_law_begin : K.lookup f_law_begin = some ⟨oc_law_begin, od_law_begin, .func (PySem.W.fnOf "_law_begin" "_law_begin" (defArgs s_law_begin) (defBody s_law_begin) (defScope s_law_begin) .none kV_law_begin dc_law_begin pm_law_begin an_law_begin cd_law_begin ct_law_begin), sl_law_begin⟩)
    (c_law_begin : PySem.W.codeIn K cd_law_begin "_law_begin" = true)
    (k_law_begin : PySem.W.keepIn K (.ref f_law_begin) = true)
    (a_law_draw : PySem.W.nsIn K mainGlobals "_law_draw" = some (some (.ref f_law_draw)))
    (l_law_draw : K.lookup f_law_draw = some ⟨oc_law_draw, od_law_draw, .func (PySem.W.fnOf "_law_draw" "_law_draw" (defArgs s_law_draw) (defBody s_law_draw) (defScope s_law_draw) .none kV_law_draw dc_law_draw pm_law_draw an_law_draw cd_law_draw ct_law_draw), sl_law_draw⟩)
    (c_law_draw : PySem.W.codeIn K cd_law_draw "_law_draw" = true)
    (k_law_draw : PySem.W.keepIn K (.ref f_law_draw) = true)
    (a_law_pick : PySem.W.nsIn K mainGlobals "_law_pick" = some (some (.ref f_law_pick)))
    (l_law_pick : K.lookup f_law_pick = some ⟨oc_law_pick, od_law_pick, .func (PySem.W.fnOf "_law_pick" "_law_pick" (defArgs s_law_pick) (defBody s_law_pick) (defScope s_law_pick) .none kV_law_pick dc_law_pick pm_law_pick an_law_pick cd_law_pick ct_law_pick), sl_law_pick⟩)
    (c_law_pick : PySem.W.codeIn K cd_law_pick "_law_pick" = true)
    (k_law_pick : PySem.W.keepIn K (.ref f_law_pick) = true)
    (a_law_scene : PySem.W.nsIn K mainGlobals "_law_scene" = some (some (.ref f_law_scene)))
    (l_law_scene : K.lookup f_law_scene = some ⟨oc_law_scene, od_law_scene, .func (PySem.W.fnOf "_law_scene" "_law_scene" (defArgs s_law_scene) (defBody s_law_scene) (defScope s_law_scene) .none kV_law_scene dc_law_scene pm_law_scene an_law_scene cd_law_scene ct_law_scene), sl_law_scene⟩)
    (c_law_scene : PySem.W.codeIn K cd_law_scene "_law_scene" = true)
    (k_law_scene : PySem.W.keepIn K (.ref f_law_scene) = true)
    (a_law_cross : PySem.W.nsIn K mainGlobals "_law_cross" = some (some (.ref f_law_cross)))
    (l_law_cross : K.lookup f_law_cross = some ⟨oc_law_cross, od_law_cross, .func (PySem.W.fnOf "_law_cross" "_law_cross" (defArgs s_law_cross) (defBody s_law_cross) (defScope s_law_cross) .none kV_law_cross dc_law_cross pm_law_cross an_law_cross cd_law_cross ct_law_cross), sl_law_cross⟩)
    (c_law_cross : PySem.W.codeIn K cd_law_cross "_law_cross" = true)
    (k_law_cross : PySem.W.keepIn K (.ref f_law_cross) = true)
    (a_law_fit : PySem.W.nsIn K mainGlobals "_law_fit" = some (some (.ref f_law_fit)))
    (l_law_fit : K.lookup f_law_fit = some ⟨oc_law_fit, od_law_fit, .func (PySem.W.fnOf "_law_fit" "_law_fit" (defArgs s_law_fit) (defBody s_law_fit) (defScope s_law_fit) .none kV_law_fit dc_law_fit pm_law_fit an_law_fit cd_law_fit ct_law_fit), sl_law_fit⟩)
    (c_law_fit : PySem.W.codeIn K cd_law_fit "_law_fit" = true)
    (k_law_fit : PySem.W.keepIn K (.ref f_law_fit) = true)
    (a_law_doors : PySem.W.nsIn K mainGlobals "_law_doors" = some (some (.ref f_law_doors)))
    (l_law_doors : K.lookup f_law_doors = some ⟨oc_law_doors, od_law_doors, .func (PySem.W.fnOf "_law_doors" "_law_doors" (defArgs s_law_doors) (defBody s_law_doors) (defScope s_law_doors) .none kV_law_doors dc_law_doors pm_law_doors an_law_doors cd_law_doors ct_law_doors), sl_law_doors⟩)
    (c_law_doors : PySem.W.codeIn K cd_law_doors "_law_doors" = true)
    (k_law_doors : PySem.W.keepIn K (.ref f_law_doors) = true)
    (a_law_lists : PySem.W.nsIn K mainGlobals "_law_lists" = some (some (.ref f_law_lists)))
    (l_law_lists : K.lookup f_law_lists = some ⟨oc_law_lists, od_law_lists, .func (PySem.W.fnOf "_law_lists" "_law_lists" (defArgs s_law_lists) (defBody s_law_lists) (defScope s_law_lists) .none kV_law_lists dc_law_lists pm_law_lists an_law_lists cd_law_lists ct_law_lists), sl_law_lists⟩)
    (c_law_lists : PySem.W.codeIn K cd_law_lists "_law_lists" = true)
    (k_law_lists : PySem.W.keepIn K (.ref f_law_lists) = true)
    (a_law_is_order : PySem.W.nsIn K mainGlobals "_law_is_order" = some (some (.ref f_law_is_order)))
    (l_law_is_order : K.lookup f_law_is_order = some ⟨oc_law_is_order, od_law_is_order, .func (PySem.W.fnOf "_law_is_order" "_law_is_order" (defArgs s_law_is_order) (defBody s_law_is_order) (defScope s_law_is_order) .none kV_law_is_order dc_law_is_order pm_law_is_order an_law_is_order cd_law_is_order ct_law_is_order), sl_law_is_order⟩)
    (c_law_is_order : PySem.W.codeIn K cd_law_is_order "_law_is_order" = true)
    (k_law_is_order : PySem.W.keepIn K (.ref f_law_is_order) = true)
    (a_law : PySem.W.nsIn K mainGlobals "law" = some (some (.ref f_law)))
    (l_law : K.lookup f_law = some ⟨oc_law, od_law, .func (PySem.W.fnOf "law" "law" (defArgs s_law) (defBody s_law) (defScope s_law) .none kV_law dc_law pm_law an_law cd_law ct_law), sl_law⟩)
    (c_law : PySem.W.codeIn K cd_law "law" = true)
    (k_law : PySem.W.keepIn K (.ref f_law) = true)
    (a_plan_init : PySem.W.findIn K (.ref P) "__init__" = some (some (.ref f_plan_init)))
    (i_plan_init : PySem.W.isFn K (.ref f_plan_init) = true)
    (l_plan_init : K.lookup f_plan_init = some ⟨oc_plan_init, od_plan_init, .func (PySem.W.fnOf "__init__" "Plan.__init__" (defArgs s_plan_init) (defBody s_plan_init) (defScope s_plan_init) (.ref dT) kV_plan_init dc_plan_init pm_plan_init an_plan_init cd_plan_init ct_plan_init), sl_plan_init⟩)
    (c_plan_init : PySem.W.codeIn K cd_plan_init "Plan.__init__" = true)
    (k_plan_init : PySem.W.keepIn K (.ref f_plan_init) = true)
    (a_plan_eq : PySem.W.findIn K (.ref P) "__eq__" = some (some (.ref f_plan_eq)))
    (i_plan_eq : PySem.W.isFn K (.ref f_plan_eq) = true)
    (l_plan_eq : K.lookup f_plan_eq = some ⟨oc_plan_eq, od_plan_eq, .func (PySem.W.fnOf "__eq__" "Plan.__eq__" (defArgs s_plan_eq) (defBody s_plan_eq) (defScope s_plan_eq) .none kV_plan_eq dc_plan_eq pm_plan_eq an_plan_eq cd_plan_eq ct_plan_eq), sl_plan_eq⟩)
    (c_plan_eq : PySem.W.codeIn K cd_plan_eq "Plan.__eq__" = true)
    (k_plan_eq : PySem.W.keepIn K (.ref f_plan_eq) = true)
    (a_closed_init : PySem.W.findIn K (.ref C) "__init__" = some (some (.ref f_closed_init)))
    (i_closed_init : PySem.W.isFn K (.ref f_closed_init) = true)
    (l_closed_init : K.lookup f_closed_init = some ⟨oc_closed_init, od_closed_init, .func (PySem.W.fnOf "__init__" "Closed.__init__" (defArgs s_closed_init) (defBody s_closed_init) (defScope s_closed_init) .none kV_closed_init dc_closed_init pm_closed_init an_closed_init cd_closed_init ct_closed_init), sl_closed_init⟩)
    (c_closed_init : PySem.W.codeIn K cd_closed_init "Closed.__init__" = true)
    (k_closed_init : PySem.W.keepIn K (.ref f_closed_init) = true)
    (a_closed_len : PySem.W.findIn K (.ref C) "__len__" = some (some (.ref f_closed_len)))
    (i_closed_len : PySem.W.isFn K (.ref f_closed_len) = true)
    (l_closed_len : K.lookup f_closed_len = some ⟨oc_closed_len, od_closed_len, .func (PySem.W.fnOf "__len__" "Closed.__len__" (defArgs s_closed_len) (defBody s_closed_len) (defScope s_closed_len) .none kV_closed_len dc_closed_len pm_closed_len an_closed_len cd_closed_len ct_closed_len), sl_closed_len⟩)
    (c_closed_len : PySem.W.codeIn K cd_closed_len "Closed.__len__" = true)
    (k_closed_len : PySem.W.keepIn K (.ref f_closed_len) = true)
    (a_closed_eq : PySem.W.findIn K (.ref C) "__eq__" = some (some (.ref f_closed_eq)))
    (i_closed_eq : PySem.W.isFn K (.ref f_closed_eq) = true)
    (l_closed_eq : K.lookup f_closed_eq = some ⟨oc_closed_eq, od_closed_eq, .func (PySem.W.fnOf "__eq__" "Closed.__eq__" (defArgs s_closed_eq) (defBody s_closed_eq) (defScope s_closed_eq) .none kV_closed_eq dc_closed_eq pm_closed_eq an_closed_eq cd_closed_eq ct_closed_eq), sl_closed_eq⟩)
    (c_closed_eq : PySem.W.codeIn K cd_closed_eq "Closed.__eq__" = true)
    (k_closed_eq : PySem.W.keepIn K (.ref f_closed_eq) = true)
    (a_closed_le : PySem.W.findIn K (.ref C) "__le__" = some (some (.ref f_closed_le)))
    (i_closed_le : PySem.W.isFn K (.ref f_closed_le) = true)
    (l_closed_le : K.lookup f_closed_le = some ⟨oc_closed_le, od_closed_le, .func (PySem.W.fnOf "__le__" "Closed.__le__" (defArgs s_closed_le) (defBody s_closed_le) (defScope s_closed_le) .none kV_closed_le dc_closed_le pm_closed_le an_closed_le cd_closed_le ct_closed_le), sl_closed_le⟩)
    (c_closed_le : PySem.W.codeIn K cd_closed_le "Closed.__le__" = true)
    (k_closed_le : PySem.W.keepIn K (.ref f_closed_le) = true)
    (a_closed_and : PySem.W.findIn K (.ref C) "__and__" = some (some (.ref f_closed_and)))
    (i_closed_and : PySem.W.isFn K (.ref f_closed_and) = true)
    (l_closed_and : K.lookup f_closed_and = some ⟨oc_closed_and, od_closed_and, .func (PySem.W.fnOf "__and__" "Closed.__and__" (defArgs s_closed_and) (defBody s_closed_and) (defScope s_closed_and) .none kV_closed_and dc_closed_and pm_closed_and an_closed_and cd_closed_and ct_closed_and), sl_closed_and⟩)
    (c_closed_and : PySem.W.codeIn K cd_closed_and "Closed.__and__" = true)
    (k_closed_and : PySem.W.keepIn K (.ref f_closed_and) = true)
    (a_closed_or : PySem.W.findIn K (.ref C) "__or__" = some (some (.ref f_closed_or)))
    (i_closed_or : PySem.W.isFn K (.ref f_closed_or) = true)
    (l_closed_or : K.lookup f_closed_or = some ⟨oc_closed_or, od_closed_or, .func (PySem.W.fnOf "__or__" "Closed.__or__" (defArgs s_closed_or) (defBody s_closed_or) (defScope s_closed_or) .none kV_closed_or dc_closed_or pm_closed_or an_closed_or cd_closed_or ct_closed_or), sl_closed_or⟩)
    (c_closed_or : PySem.W.codeIn K cd_closed_or "Closed.__or__" = true)
    (k_closed_or : PySem.W.keepIn K (.ref f_closed_or) = true)
    (l_dfl : K.lookup dT = some ⟨dO, dD, .seq [.ref dE].toArray dN, dS⟩)
    : Nonempty { T : TF K mg // T.f_law = f_law ∧ ∃ kV doc pm an cdv ct, T.d_law = PySem.W.fnOf "law" "law" (defArgs s_law) (defBody s_law) (defScope s_law) .none kV doc pm an cdv ct } := by
  have F_is_integer := fun_mk (st := s_is_integer) l_is_integer c_is_integer k_is_integer
  have b_is_integer := F_is_integer.binds (ps := ["value"]) fun _ _ _ _ _ _ us hl => match us, hl with | [_], _ => rfl
  have F_is_list := fun_mk (st := s_is_list) l_is_list c_is_list k_is_list
  have b_is_list := F_is_list.binds (ps := ["value"]) fun _ _ _ _ _ _ us hl => match us, hl with | [_], _ => rfl
  have F_need_same := fun_mk (st := s_need_same) l_need_same c_need_same k_need_same
  have b_need_same := F_need_same.binds (ps := ["plan", "other"]) fun _ _ _ _ _ _ us hl => match us, hl with | [_, _], _ => rfl
  have F_are_letters := fun_mk (st := s_are_letters) l_are_letters c_are_letters k_are_letters
  have b_are_letters := F_are_letters.binds (ps := ["value"]) fun _ _ _ _ _ _ us hl => match us, hl with | [_], _ => rfl
  have F_ascending := fun_mk (st := s_ascending) l_ascending c_ascending k_ascending
  have b_ascending := F_ascending.binds (ps := ["letters"]) fun _ _ _ _ _ _ us hl => match us, hl with | [_], _ => rfl
  have F_checked_pairs := fun_mk (st := s_checked_pairs) l_checked_pairs c_checked_pairs k_checked_pairs
  have b_checked_pairs := F_checked_pairs.binds (ps := ["kinds", "crossing"]) fun _ _ _ _ _ _ us hl => match us, hl with | [_, _], _ => rfl
  have F_need_few := fun_mk (st := s_need_few) l_need_few c_need_few k_need_few
  have b_need_few := F_need_few.binds (ps := ["kinds"]) fun _ _ _ _ _ _ us hl => match us, hl with | [_], _ => rfl
  have F_crossing_table := fun_mk (st := s_crossing_table) l_crossing_table c_crossing_table k_crossing_table
  have b_crossing_table := F_crossing_table.binds (ps := ["kinds", "pairs"]) fun _ _ _ _ _ _ us hl => match us, hl with | [_, _], _ => rfl
  have F_is_table_row := fun_mk (st := s_is_table_row) l_is_table_row c_is_table_row k_is_table_row
  have b_is_table_row := F_is_table_row.binds (ps := ["value", "many"]) fun _ _ _ _ _ _ us hl => match us, hl with | [_, _], _ => rfl
  have F_table_rows := fun_mk (st := s_table_rows) l_table_rows c_table_rows k_table_rows
  have b_table_rows := F_table_rows.binds (ps := ["plan", "tables", "many"]) fun _ _ _ _ _ _ us hl => match us, hl with | [_, _, _], _ => rfl
  have F_need_entries := fun_mk (st := s_need_entries) l_need_entries c_need_entries k_need_entries
  have b_need_entries := F_need_entries.binds (ps := ["plan", "rows", "turning"]) fun _ _ _ _ _ _ us hl => match us, hl with | [_, _, _], _ => rfl
  have F_need_exchanged := fun_mk (st := s_need_exchanged) l_need_exchanged c_need_exchanged k_need_exchanged
  have b_need_exchanged := F_need_exchanged.binds (ps := ["plan", "rows"]) fun _ _ _ _ _ _ us hl => match us, hl with | [_, _], _ => rfl
  have F_found_places := fun_mk (st := s_found_places) l_found_places c_found_places k_found_places
  have b_found_places := F_found_places.binds (ps := ["rows", "first"]) fun _ _ _ _ _ _ us hl => match us, hl with | [_, _], _ => rfl
  have F_numbered_rows := fun_mk (st := s_numbered_rows) l_numbered_rows c_numbered_rows k_numbered_rows
  have b_numbered_rows := F_numbered_rows.binds (ps := ["rows", "first"]) fun _ _ _ _ _ _ us hl => match us, hl with | [_, _], _ => rfl
  have F_met_pairs := fun_mk (st := s_met_pairs) l_met_pairs c_met_pairs k_met_pairs
  have b_met_pairs := F_met_pairs.binds (ps := ["one", "other"]) fun _ _ _ _ _ _ us hl => match us, hl with | [_, _], _ => rfl
  have F_following_pairs := fun_mk (st := s_following_pairs) l_following_pairs c_following_pairs k_following_pairs
  have b_following_pairs := F_following_pairs.binds (ps := ["one", "other", "pair"]) fun _ _ _ _ _ _ us hl => match us, hl with | [_, _, _], _ => rfl
  have F_pair_floor := fun_mk (st := s_pair_floor) l_pair_floor c_pair_floor k_pair_floor
  have b_pair_floor := F_pair_floor.binds (ps := ["one", "other", "pairs"]) fun _ _ _ _ _ _ us hl => match us, hl with | [_, _, _], _ => rfl
  have F_joint_marks := fun_mk (st := s_joint_marks) l_joint_marks c_joint_marks k_joint_marks
  have b_joint_marks := F_joint_marks.binds (ps := ["pairs"]) fun _ _ _ _ _ _ us hl => match us, hl with | [_], _ => rfl
  have F_merged_row := fun_mk (st := s_merged_row) l_merged_row c_merged_row k_merged_row
  have b_merged_row := F_merged_row.binds (ps := ["row", "marks"]) fun _ _ _ _ _ _ us hl => match us, hl with | [_, _], _ => rfl
  have F_law_begin := fun_mk (st := s_law_begin) l_law_begin c_law_begin k_law_begin
  have b_law_begin := F_law_begin.binds (ps := ["_law_script"]) fun _ _ _ _ _ _ us hl => match us, hl with | [_], _ => rfl
  have F_law_draw := fun_mk (st := s_law_draw) l_law_draw c_law_draw k_law_draw
  have b_law_draw := F_law_draw.binds (ps := ["_law_pen", "_law_span"]) fun _ _ _ _ _ _ us hl => match us, hl with | [_, _], _ => rfl
  have F_law_pick := fun_mk (st := s_law_pick) l_law_pick c_law_pick k_law_pick
  have b_law_pick := F_law_pick.binds (ps := ["_law_pen", "_law_some"]) fun _ _ _ _ _ _ us hl => match us, hl with | [_, _], _ => rfl
  have F_law_scene := fun_mk (st := s_law_scene) l_law_scene c_law_scene k_law_scene
  have b_law_scene := F_law_scene.binds (ps := ["_law_pen", "_law_least", "_law_most"]) fun _ _ _ _ _ _ us hl => match us, hl with | [_, _, _], _ => rfl
  have F_law_cross := fun_mk (st := s_law_cross) l_law_cross c_law_cross k_law_cross
  have b_law_cross := F_law_cross.binds (ps := ["_law_scene_here", "_law_a", "_law_b"]) fun _ _ _ _ _ _ us hl => match us, hl with | [_, _, _], _ => rfl
  have F_law_fit := fun_mk (st := s_law_fit) l_law_fit c_law_fit k_law_fit
  have b_law_fit := F_law_fit.binds (ps := ["_law_scene_here", "_law_tables", "_law_door", "_law_one", "_law_two"]) fun _ _ _ _ _ _ us hl => match us, hl with | [_, _, _, _, _], _ => rfl
  have F_law_doors := fun_mk (st := s_law_doors) l_law_doors c_law_doors k_law_doors
  have b_law_doors := F_law_doors.binds (ps := ["_law_pen", "_law_scene_here", "_law_many"]) fun _ _ _ _ _ _ us hl => match us, hl with | [_, _, _], _ => rfl
  have F_law_lists := fun_mk (st := s_law_lists) l_law_lists c_law_lists k_law_lists
  have b_law_lists := F_law_lists.binds (ps := ["_law_scene_here", "_law_tables"]) fun _ _ _ _ _ _ us hl => match us, hl with | [_, _], _ => rfl
  have F_law_is_order := fun_mk (st := s_law_is_order) l_law_is_order c_law_is_order k_law_is_order
  have b_law_is_order := F_law_is_order.binds (ps := ["_law_one", "_law_two", "_law_three"]) fun _ _ _ _ _ _ us hl => match us, hl with | [_, _, _], _ => rfl
  have F_law := fun_mk (st := s_law) l_law c_law k_law
  have b_law := F_law.binds (ps := ["_law_script"]) fun _ _ _ _ _ _ us hl => match us, hl with | [_], _ => rfl
  have F_plan_init : FunD K "__init__" "Plan.__init__" (defArgs s_plan_init) (defBody s_plan_init) (defScope s_plan_init) [.ref dE] [] f_plan_init _ := ⟨⟨_, _, _, _, _, _, _, _, _, _, rfl, l_plan_init, c_plan_init, .inr ⟨by simp, dT, _, [.ref dE], _, rfl, l_dfl, rfl, .cons rfl .nil⟩, .inl rfl⟩, k_plan_init⟩
  have b_plan_init : Binds K (PySem.W.fnOf "__init__" "Plan.__init__" (defArgs s_plan_init) (defBody s_plan_init) (defScope s_plan_init) (.ref dT) kV_plan_init dc_plan_init pm_plan_init an_plan_init cd_plan_init ct_plan_init) ["self", "kinds", "crossing"] [] := by
    obtain ⟨ds, r, b⟩ := F_plan_init.binds1 (ps := ["self", "kinds", "crossing"]) 3 1 (by simp) rfl fun T kV doc pm an cdv ct us its hl hi => match us, its, hl, hi with | [_, _, _], [_], _, _ => ⟨_, rfl, rfl⟩
    cases r
    exact b
  have F_plan_eq := fun_mk (st := s_plan_eq) l_plan_eq c_plan_eq k_plan_eq
  have b_plan_eq := F_plan_eq.binds (ps := ["self", "other"]) fun _ _ _ _ _ _ us hl => match us, hl with | [_, _], _ => rfl
  have F_closed_init := fun_mk (st := s_closed_init) l_closed_init c_closed_init k_closed_init
  have b_closed_init := F_closed_init.binds (ps := ["self", "plan", "tables"]) fun _ _ _ _ _ _ us hl => match us, hl with | [_, _, _], _ => rfl
  have F_closed_len := fun_mk (st := s_closed_len) l_closed_len c_closed_len k_closed_len
  have b_closed_len := F_closed_len.binds (ps := ["self"]) fun _ _ _ _ _ _ us hl => match us, hl with | [_], _ => rfl
  have F_closed_eq := fun_mk (st := s_closed_eq) l_closed_eq c_closed_eq k_closed_eq
  have b_closed_eq := F_closed_eq.binds (ps := ["self", "other"]) fun _ _ _ _ _ _ us hl => match us, hl with | [_, _], _ => rfl
  have F_closed_le := fun_mk (st := s_closed_le) l_closed_le c_closed_le k_closed_le
  have b_closed_le := F_closed_le.binds (ps := ["self", "other"]) fun _ _ _ _ _ _ us hl => match us, hl with | [_, _], _ => rfl
  have F_closed_and := fun_mk (st := s_closed_and) l_closed_and c_closed_and k_closed_and
  have b_closed_and := F_closed_and.binds (ps := ["self", "other"]) fun _ _ _ _ _ _ us hl => match us, hl with | [_, _], _ => rfl
  have F_closed_or := fun_mk (st := s_closed_or) l_closed_or c_closed_or k_closed_or
  have b_closed_or := F_closed_or.binds (ps := ["self", "other"]) fun _ _ _ _ _ _ us hl => match us, hl with | [_, _], _ => rfl
  exact ⟨⟨{
    P := P, C := C, dE := dE, clP := ⟨pgP, hdP, poP, saP⟩, clC := ⟨pgC, hdC, poC, saC⟩, isP := ⟨iaP, ign, igt, imP⟩, isC := ⟨iaC, ign, igt, imC⟩, mgP := PySem.W.mg_of X G aP, mgC := PySem.W.mg_of X G aC, nfP := nfP, nfC := nfC, sfC := sfC, neP := neP, mkP := mkP, mkC := mkC, kpP := kcP, kpC := kcC,
    noP_kinds := noP_kinds, noP_pairs := noP_pairs, noP_own_crossing := noP_own_crossing,
    noC_plan := noC_plan, noC_tables := noC_tables, noC_own_places := noC_own_places,
    lettersT := lT, mgL := PySem.W.mg_of X G aL, mostT := mT, mgM := PySem.W.mg_of X G aM,
    z_isinstance := PySem.W.mg_none_of X G z_isinstance, z_len := PySem.W.mg_none_of X G z_len, z_all := PySem.W.mg_none_of X G z_all, z_set := PySem.W.mg_none_of X G z_set, z_tuple := PySem.W.mg_none_of X G z_tuple, z_zip := PySem.W.mg_none_of X G z_zip, z_enumerate := PySem.W.mg_none_of X G z_enumerate, z_range := PySem.W.mg_none_of X G z_range, z_int := PySem.W.mg_none_of X G z_int, z_list := PySem.W.mg_none_of X G z_list, z_min := PySem.W.mg_none_of X G z_min, z_abs := PySem.W.mg_none_of X G z_abs, z_str := PySem.W.mg_none_of X G z_str, z_sorted := PySem.W.mg_none_of X G z_sorted, z_bool := PySem.W.mg_none_of X G z_bool,
    f_is_integer := f_is_integer, d_is_integer := _, F_is_integer := F_is_integer, b_is_integer := b_is_integer, m_is_integer := PySem.W.mg_of X G a_is_integer,
    f_is_list := f_is_list, d_is_list := _, F_is_list := F_is_list, b_is_list := b_is_list, m_is_list := PySem.W.mg_of X G a_is_list,
    f_need_same := f_need_same, d_need_same := _, F_need_same := F_need_same, b_need_same := b_need_same, m_need_same := PySem.W.mg_of X G a_need_same,
    f_are_letters := f_are_letters, d_are_letters := _, F_are_letters := F_are_letters, b_are_letters := b_are_letters, m_are_letters := PySem.W.mg_of X G a_are_letters,
    f_ascending := f_ascending, d_ascending := _, F_ascending := F_ascending, b_ascending := b_ascending, m_ascending := PySem.W.mg_of X G a_ascending,
    f_checked_pairs := f_checked_pairs, d_checked_pairs := _, F_checked_pairs := F_checked_pairs, b_checked_pairs := b_checked_pairs, m_checked_pairs := PySem.W.mg_of X G a_checked_pairs,
    f_need_few := f_need_few, d_need_few := _, F_need_few := F_need_few, b_need_few := b_need_few, m_need_few := PySem.W.mg_of X G a_need_few,
    f_crossing_table := f_crossing_table, d_crossing_table := _, F_crossing_table := F_crossing_table, b_crossing_table := b_crossing_table, m_crossing_table := PySem.W.mg_of X G a_crossing_table,
    f_is_table_row := f_is_table_row, d_is_table_row := _, F_is_table_row := F_is_table_row, b_is_table_row := b_is_table_row, m_is_table_row := PySem.W.mg_of X G a_is_table_row,
    f_table_rows := f_table_rows, d_table_rows := _, F_table_rows := F_table_rows, b_table_rows := b_table_rows, m_table_rows := PySem.W.mg_of X G a_table_rows,
    f_need_entries := f_need_entries, d_need_entries := _, F_need_entries := F_need_entries, b_need_entries := b_need_entries, m_need_entries := PySem.W.mg_of X G a_need_entries,
    f_need_exchanged := f_need_exchanged, d_need_exchanged := _, F_need_exchanged := F_need_exchanged, b_need_exchanged := b_need_exchanged, m_need_exchanged := PySem.W.mg_of X G a_need_exchanged,
    f_found_places := f_found_places, d_found_places := _, F_found_places := F_found_places, b_found_places := b_found_places, m_found_places := PySem.W.mg_of X G a_found_places,
    f_numbered_rows := f_numbered_rows, d_numbered_rows := _, F_numbered_rows := F_numbered_rows, b_numbered_rows := b_numbered_rows, m_numbered_rows := PySem.W.mg_of X G a_numbered_rows,
    f_met_pairs := f_met_pairs, d_met_pairs := _, F_met_pairs := F_met_pairs, b_met_pairs := b_met_pairs, m_met_pairs := PySem.W.mg_of X G a_met_pairs,
    f_following_pairs := f_following_pairs, d_following_pairs := _, F_following_pairs := F_following_pairs, b_following_pairs := b_following_pairs, m_following_pairs := PySem.W.mg_of X G a_following_pairs,
    f_pair_floor := f_pair_floor, d_pair_floor := _, F_pair_floor := F_pair_floor, b_pair_floor := b_pair_floor, m_pair_floor := PySem.W.mg_of X G a_pair_floor,
    f_joint_marks := f_joint_marks, d_joint_marks := _, F_joint_marks := F_joint_marks, b_joint_marks := b_joint_marks, m_joint_marks := PySem.W.mg_of X G a_joint_marks,
    f_merged_row := f_merged_row, d_merged_row := _, F_merged_row := F_merged_row, b_merged_row := b_merged_row, m_merged_row := PySem.W.mg_of X G a_merged_row,
    f_law_begin := f_law_begin, d_law_begin := _, F_law_begin := F_law_begin, b_law_begin := b_law_begin, m_law_begin := PySem.W.mg_of X G a_law_begin,
    f_law_draw := f_law_draw, d_law_draw := _, F_law_draw := F_law_draw, b_law_draw := b_law_draw, m_law_draw := PySem.W.mg_of X G a_law_draw,
    f_law_pick := f_law_pick, d_law_pick := _, F_law_pick := F_law_pick, b_law_pick := b_law_pick, m_law_pick := PySem.W.mg_of X G a_law_pick,
    f_law_scene := f_law_scene, d_law_scene := _, F_law_scene := F_law_scene, b_law_scene := b_law_scene, m_law_scene := PySem.W.mg_of X G a_law_scene,
    f_law_cross := f_law_cross, d_law_cross := _, F_law_cross := F_law_cross, b_law_cross := b_law_cross, m_law_cross := PySem.W.mg_of X G a_law_cross,
    f_law_fit := f_law_fit, d_law_fit := _, F_law_fit := F_law_fit, b_law_fit := b_law_fit, m_law_fit := PySem.W.mg_of X G a_law_fit,
    f_law_doors := f_law_doors, d_law_doors := _, F_law_doors := F_law_doors, b_law_doors := b_law_doors, m_law_doors := PySem.W.mg_of X G a_law_doors,
    f_law_lists := f_law_lists, d_law_lists := _, F_law_lists := F_law_lists, b_law_lists := b_law_lists, m_law_lists := PySem.W.mg_of X G a_law_lists,
    f_law_is_order := f_law_is_order, d_law_is_order := _, F_law_is_order := F_law_is_order, b_law_is_order := b_law_is_order, m_law_is_order := PySem.W.mg_of X G a_law_is_order,
    f_law := f_law, d_law := _, F_law := F_law, b_law := b_law, m_law := PySem.W.mg_of X G a_law,
    f_plan_init := f_plan_init, d_plan_init := _, F_plan_init := F_plan_init, b_plan_init := b_plan_init, m_plan_init := a_plan_init, i_plan_init := i_plan_init,
    f_plan_eq := f_plan_eq, d_plan_eq := _, F_plan_eq := F_plan_eq, b_plan_eq := b_plan_eq, m_plan_eq := a_plan_eq, i_plan_eq := i_plan_eq,
    f_closed_init := f_closed_init, d_closed_init := _, F_closed_init := F_closed_init, b_closed_init := b_closed_init, m_closed_init := a_closed_init, i_closed_init := i_closed_init,
    f_closed_len := f_closed_len, d_closed_len := _, F_closed_len := F_closed_len, b_closed_len := b_closed_len, m_closed_len := a_closed_len, i_closed_len := i_closed_len,
    f_closed_eq := f_closed_eq, d_closed_eq := _, F_closed_eq := F_closed_eq, b_closed_eq := b_closed_eq, m_closed_eq := a_closed_eq, i_closed_eq := i_closed_eq,
    f_closed_le := f_closed_le, d_closed_le := _, F_closed_le := F_closed_le, b_closed_le := b_closed_le, m_closed_le := a_closed_le, i_closed_le := i_closed_le,
    f_closed_and := f_closed_and, d_closed_and := _, F_closed_and := F_closed_and, b_closed_and := b_closed_and, m_closed_and := a_closed_and, i_closed_and := i_closed_and,
    f_closed_or := f_closed_or, d_closed_or := _, F_closed_or := F_closed_or, b_closed_or := b_closed_or, m_closed_or := a_closed_or, i_closed_or := i_closed_or }, rfl, _, _, _, _, _, _, rfl⟩⟩
end
end Cw

/-! ## CwTool -/
namespace Cw
open PySem PySem.Spec PyProof.Rows L2 CwR
/-- a whole number that is not negative, as a value -/
abbrev iv (n : Nat) : V := .int (n : Int)
def txt (cs : List Nat) : Str := ⟨cs.toArray⟩
theorem txt_tl (cs : List Nat) : (txt cs).cps.toList = cs := rfl
theorem txt_inj {a b : List Nat} : txt a = txt b ↔ a = b := by
  constructor
  · intro h
    have := congrArg (fun z : Str => z.cps.toList) h
    simpa [txt] using this
  · intro h; rw [h]
def letters : Str := "abcdefghijklmnopqrstuvwxyz"
def lets : List Nat := (List.range 26).map (97 + ·)
theorem letters_tl : letters.cps.toList = lets := by decide +kernel
theorem mem_lets {c : Nat} : c ∈ lets ↔ 97 ≤ c ∧ c ≤ 122 := by
  unfold lets
  rw [List.mem_map]
  constructor
  · rintro ⟨a, ha, rfl⟩
    have := List.mem_range.mp ha
    omega
  · rintro ⟨h1, h2⟩
    exact ⟨c - 97, List.mem_range.mpr (by omega), by omega⟩
theorem same_new {H0 H : Hp} {a : Addr} {o : HO} (h : Same H0 H) (e : H0 a = none) : Same H0 (upd H a o) := fun b u hb => by
  have : b ≠ a := fun q => by rw [q, e] at hb; cases hb
  rw [upd_ne this]
  exact h b u hb
theorem ne_free {H : Hp} {a b : Addr} {o : HO} (h : H a = some o) (e : H b = none) : a ≠ b := fun q => by rw [q, e] at h; cases h
theorem app_getElem? {α : Type} {xs : List α} {y : α} {i : Nat} (h : i < xs.length) : (xs ++ [y])[i]? = xs[i]? := by
  rw [List.getElem?_append_left h]

/-- a comprehension that makes values that are known ahead -/
theorem lc_fn {J : It} {n : Nat} {G : Hp → Prop} {Y : Nat → Hp → V → Hp → Prop} (w : Walk J n G Y) {g : TG} {tt : TT} {te : TE} {vs : List Nat} {σ : L2.St} {H1 : Hp} {D : Addr} {Qd : Hp → Prop}
    (p : Nat → Bool) (f : Nat → V) (hD : H1 D = none) (hn : n ≤ sizeLine) (hG : ∀ H, Same H1 H → G H)
    (hs : ∀ i x H H' (k : V → Hp → Prop) (N : Hp → Prop), i < n → Same H1 H → Y i H x H' → (p i = true → ∀ H4, Same H H4 → k (f i) H4) → (p i = false → ∀ H4, Same H H4 → N H4) →
      g x (wipe σ vs) H' fun σ2 H2 => wipe σ2 vs = wipe σ vs ∧ tt σ2 H2 fun b H3 => if b = true then te σ2 H3 k else N H3)
    (hd : ∀ H, Same H1 H → H D = some (.lst (((List.range n).filter p).map f)) → Qd H) :
    ∃ W : Nat → Nat → Hp → Prop, (∃ m, W 0 m (upd H1 D (.lst []))) ∧ ∀ i m H, W i m H →
      (J.stop i H ∧ Qd H) ∨ (J.go i H ∧ ∃ Nx : Hp → Prop, (∀ H', Nx H' → ∃ m', m' < m ∧ W (i + 1) m' H') ∧ ∀ x H', J.yld i H x H' → g x (wipe σ vs) H' fun σ2 H2 => wipe σ2 vs = wipe σ vs ∧ tt σ2 H2 fun b H3 =>
        if b = true then te σ2 H3 fun y H4 => ∃ acc, H4 D = some (.lst acc) ∧ acc.length < sizeLine ∧ Nx (upd H4 D (.lst (acc ++ [y]))) else Nx H3) := by
  refine lc_it w (fun i H => Same H1 H ∧ H D = some (.lst (((List.range i).filter p).map f))) ⟨same_new (Same.refl H1) hD, upd_same⟩ (fun i H _ h => hG H h.1) (fun i x H H' hi h y => ?_) (fun H h => hd H h.1 h.2)
  refine hs i x H H' _ _ hi h.1 y (fun hp H4 s4 => ?_) (fun hp H4 s4 => ?_)
  · refine ⟨_, s4 _ _ h.2, ?_, ?_, ?_⟩
    · rw [List.length_map]
      have := List.length_filter_le p (List.range i)
      rw [List.length_range] at this
      omega
    · exact same_new (h.1.trans s4) hD
    · rw [upd_same, List.range_succ, List.filter_append, List.map_append]
      simp [hp]
  · refine ⟨h.1.trans s4, ?_⟩
    rw [s4 _ _ h.2, List.range_succ, List.filter_append, List.map_append]
    simp [hp]
/-- a comprehension that makes new objects: the i-th stands for c i -/
theorem lc_refs {J : It} {n : Nat} {G : Hp → Prop} {Y : Nat → Hp → V → Hp → Prop} (w : Walk J n G Y) {g : TG} {te : TE} {vs : List Nat} {σ : L2.St} {H1 : Hp} {D : Addr} {Qd : Hp → Prop}
    (c : Nat → HO) (hD : H1 D = none) (hn : n ≤ sizeLine) (hG : ∀ H, Same H1 H → G H)
    (hs : ∀ i x H H' (k : V → Hp → Prop), i < n → Same H1 H → (∃ xs, H D = some (.lst xs)) → Y i H x H' → (∀ H4 t, Same H H4 → H4 t = some (c i) → t ≠ D → k (.ref t) H4) →
      g x (wipe σ vs) H' fun σ2 H2 => wipe σ2 vs = wipe σ vs ∧ te σ2 H2 k)
    (hd : ∀ H (ts : List Addr), Same H1 H → H D = some (.lst (ts.map V.ref)) → ts.length = n → (∀ i t, ts[i]? = some t → H t = some (c i)) → Qd H) :
    ∃ W : Nat → Nat → Hp → Prop, (∃ m, W 0 m (upd H1 D (.lst []))) ∧ ∀ i m H, W i m H →
      (J.stop i H ∧ Qd H) ∨ (J.go i H ∧ ∃ Nx : Hp → Prop, (∀ H', Nx H' → ∃ m', m' < m ∧ W (i + 1) m' H') ∧ ∀ x H', J.yld i H x H' → g x (wipe σ vs) H' fun σ2 H2 => wipe σ2 vs = wipe σ vs ∧ tYes σ2 H2 fun b H3 =>
        if b = true then te σ2 H3 fun y H4 => ∃ acc, H4 D = some (.lst acc) ∧ acc.length < sizeLine ∧ Nx (upd H4 D (.lst (acc ++ [y]))) else Nx H3) := by
  refine lc_it w (fun i H => Same H1 H ∧ ∃ ts : List Addr, ts.length = i ∧ H D = some (.lst (ts.map V.ref)) ∧ ∀ j t, ts[j]? = some t → t ≠ D ∧ H t = some (c j))
    ⟨same_new (Same.refl H1) hD, [], rfl, upd_same, fun j t e => by simp at e⟩ (fun i H _ h => hG H h.1) (fun i x H H' hi h y => ?_) (fun H h => ?_)
  · obtain ⟨s1, ts, hl, hDl, ht⟩ := h
    refine hs i x H H' _ hi s1 ⟨_, hDl⟩ y (fun H4 t s4 h4 hne => ?_)
    refine ⟨_, s4 _ _ hDl, by rw [List.length_map]; omega, same_new (s1.trans s4) hD, ts ++ [t], by simp [hl], by rw [upd_same, List.map_append]; rfl, fun j u e => ?_⟩
    by_cases hj : j < ts.length
    · rw [app_getElem? hj] at e
      obtain ⟨a, b⟩ := ht j u e
      exact ⟨a, by rw [upd_ne a]; exact s4 _ _ b⟩
    · have hj' : j = ts.length := by
        have := (List.getElem?_eq_some_iff.mp e).1
        simp at this
        omega
      subst hj'
      rw [List.getElem?_append_right (Nat.le_refl _)] at e
      simp at e
      subst e
      exact ⟨hne, by rw [upd_ne hne, h4, hl]⟩
  · obtain ⟨s1, ts, hl, hDl, ht⟩ := h
    exact hd H ts s1 hDl hl fun i t e => (ht i t e).2
theorem filter_true {n : Nat} {p : Nat → Bool} (h : ∀ i, i < n → p i = true) : (List.range n).filter p = List.range n := by
  rw [List.filter_eq_self]
  intro a ha
  exact h a (List.mem_range.mp ha)
/-- the list by its places -/
theorem map_range_getD {α β : Type} (xs : List α) (d : α) (f : α → β) : (List.range xs.length).map (fun i => f (xs.getD i d)) = xs.map f := by
  apply List.ext_getElem?
  intro i
  rw [List.getElem?_map, List.getElem?_map]
  by_cases h : i < xs.length
  · rw [List.getElem?_range h, List.getElem?_eq_getElem h]
    simp [List.getD_eq_getElem?_getD, List.getElem?_eq_getElem h]
  · rw [List.getElem?_eq_none (by simpa using h), List.getElem?_eq_none (by omega)]
    rfl
theorem getD_of {α : Type} {xs : List α} {i : Nat} {x d : α} (h : xs[i]? = some x) : xs.getD i d = x := by
  rw [List.getD_eq_getElem?_getD, h]; rfl
theorem iteB {a b : Prop} (c : Bool) (h1 : c = true → a) (h2 : c = false → b) : if c = true then a else b := by
  cases c
  · exact h2 rfl
  · exact h1 rfl
theorem eqvAll_ints : ∀ a b : List Nat, PyData.eqvAll (a.map fun n : Nat => PyData.int (n : Int)) (b.map fun n : Nat => PyData.int (n : Int)) = decide (a = b)
  | [], [] => by simp [PyData.eqvAll]
  | [], y :: ys => by simp [PyData.eqvAll]
  | x :: xs, [] => by simp [PyData.eqvAll]
  | x :: xs, y :: ys => by
    have := eqvAll_ints xs ys
    simp only [List.map_cons, PyData.eqvAll, this, PyData.eqv]
    have e : ((x : Int) = (y : Int)) ↔ x = y := by omega
    by_cases h : x = y <;> by_cases h2 : xs = ys <;> simp [h, h2, e]
def rowD (r : List Nat) : PyData := .tuple (r.map fun n : Nat => PyData.int (n : Int))
theorem eqvAll_rows : ∀ a b : List (List Nat), PyData.eqvAll (a.map rowD) (b.map rowD) = decide (a = b)
  | [], [] => by simp [PyData.eqvAll]
  | [], y :: ys => by simp [PyData.eqvAll]
  | x :: xs, [] => by simp [PyData.eqvAll]
  | x :: xs, y :: ys => by
    have := eqvAll_rows xs ys
    simp only [List.map_cons, PyData.eqvAll, this]
    have e : PyData.eqv (rowD x) (rowD y) = decide (x = y) := by unfold rowD; rw [PyData.eqv]; exact eqvAll_ints x y
    rw [e]
    by_cases h : x = y <;> by_cases h2 : xs = ys <;> simp [h, h2]
theorem canLay_rows : ∀ a : List (List Nat), PyData.canLayAll0 (a.map rowD) = true ∧ PyData.depthAll (a.map rowD) ≤ 1
  | [] => by simp [PyData.canLayAll0, PyData.depthAll]
  | x :: xs => by
    have ih := canLay_rows xs
    have h1 : ∀ r : List Nat, PyData.canLayAll0 (r.map fun n : Nat => PyData.int (n : Int)) = true ∧ PyData.depthAll (r.map fun n : Nat => PyData.int (n : Int)) = 0 := fun r => by
      induction r with
      | nil => simp [PyData.canLayAll0, PyData.depthAll]
      | cons n r ih => simp [PyData.canLayAll0, PyData.depthAll, PyData.canLay0, PyData.depth, ih]
    simp only [List.map_cons, PyData.canLayAll0, PyData.depthAll, ih.1, rowD, PyData.canLay0, PyData.depth, h1 x]
    refine ⟨by simp, ?_⟩
    have := ih.2
    unfold rowD at this
    omega
theorem shaped_rows (a : List (List Nat)) : SeqAt.shaped (.tuple (a.map rowD)) = true := by
  have := canLay_rows a
  unfold SeqAt.shaped
  rw [Bool.and_eq_true]
  refine ⟨by rw [PyData.canLay0]; exact this.1, decide_eq_true ?_⟩
  rw [PyData.depth]
  omega
theorem shaped_flat {ds : List PyData} (h : PyData.canLayAll0 ds = true ∧ PyData.depthAll ds = 0) : SeqAt.shaped (.tuple ds) = true ∧ SeqAt.shaped (.list ds) = true := by
  unfold SeqAt.shaped
  rw [Bool.and_eq_true, Bool.and_eq_true]
  refine ⟨⟨by rw [PyData.canLay0]; exact h.1, decide_eq_true ?_⟩, ⟨by rw [PyData.canLay0]; exact h.1, decide_eq_true ?_⟩⟩
  · rw [PyData.depth]; omega
  · rw [PyData.depth]; omega
theorem ints_lay (r : List Nat) : PyData.canLayAll0 (r.map fun n : Nat => PyData.int (n : Int)) = true ∧ PyData.depthAll (r.map fun n : Nat => PyData.int (n : Int)) = 0 := by
  induction r with
  | nil => simp [PyData.canLayAll0, PyData.depthAll]
  | cons n r ih => simp [PyData.canLayAll0, PyData.depthAll, PyData.canLay0, PyData.depth, ih]
theorem strs_lay (r : List Str) (hr : ∀ z ∈ r, PyData.strOk z = true) : PyData.canLayAll0 (r.map PyData.str) = true ∧ PyData.depthAll (r.map PyData.str) = 0 := by
  induction r with
  | nil => simp [PyData.canLayAll0, PyData.depthAll]
  | cons n r ih =>
    have := ih fun z hz => hr z (List.mem_cons_of_mem _ hz)
    have := hr n List.mem_cons_self
    simp [PyData.canLayAll0, PyData.depthAll, PyData.canLay0, PyData.depth, *]
theorem strOk_low {cs : List Nat} (h : ∀ c ∈ cs, c ∈ lets) : PyData.strOk (txt cs) = true := by
  unfold PyData.strOk
  rw [← Array.all_toList, List.all_eq_true]
  intro c hc
  have := mem_lets.mp (h c hc)
  exact decide_eq_true (by omega)
theorem kit_self {K : PySem.W.Frag} (t : Value) : PySem.W.kitOne K t t = some true := by
  unfold PySem.W.kitOne
  rw [if_pos (by simp)]

/-- the loop of a comprehension, whatever its body -/
theorem comp_it {J : It} {n : Nat} {G : Hp → Prop} {Y : Nat → Hp → V → Hp → Prop} (w : Walk J n G Y) {g : TG} {B : (Hp → Prop) → L2.St → Hp → Prop} {σ0 : L2.St} {H1 : Hp} {Qd : Hp → Prop} (Pv : Nat → Hp → Prop) (h0 : Pv 0 H1) (hG : ∀ i H, i ≤ n → Pv i H → G H)
    (hs : ∀ i x H H', i < n → Pv i H → Y i H x H' → g x σ0 H' fun σ2 H2 => B (Pv (i + 1)) σ2 H2) (hd : ∀ H, Pv n H → Qd H) :
    ∃ W : Nat → Nat → Hp → Prop, (∃ m, W 0 m H1) ∧ ∀ i m H, W i m H →
      (J.stop i H ∧ Qd H) ∨ (J.go i H ∧ ∃ Nx : Hp → Prop, (∀ H', Nx H' → ∃ m', m' < m ∧ W (i + 1) m' H') ∧ ∀ x H', J.yld i H x H' → g x σ0 H' fun σ2 H2 => B Nx σ2 H2) := by
  refine ⟨fun i m H => m = n - i ∧ i ≤ n ∧ Pv i H, ⟨n, by simp, Nat.zero_le _, h0⟩, ?_⟩
  rintro i m H ⟨rfl, hi, p⟩
  have q := hG i H hi p
  by_cases hlt : i < n
  · exact .inr ⟨w.goes i H hlt q, Pv (i + 1), fun H' p' => ⟨n - (i + 1), by omega, rfl, hlt, p'⟩, fun x H' y => hs i x H H' hlt p (w.yields i H x H' hlt q y)⟩
  · have e : i = n := by omega
    subst e
    exact .inl ⟨w.stops H q, hd H p⟩
/-- the inner loop of a comprehension with two -/
theorem lc_in {J : It} {n : Nat} {G : Hp → Prop} {Y : Nat → Hp → V → Hp → Prop} (w : Walk J n G Y) {g : TG} {tt : TT} {te : TE} {vs : List Nat} {σ : L2.St} {H1 : Hp} {D : Addr} {Qd : Hp → Prop} (Pv : Nat → Hp → Prop) (h0 : Pv 0 H1) (hG : ∀ i H, i ≤ n → Pv i H → G H)
    (hs : ∀ i x H H', i < n → Pv i H → Y i H x H' → g x (wipe σ vs) H' fun σ2 H2 => wipe σ2 vs = wipe σ vs ∧ tt σ2 H2 fun b H3 =>
      if b = true then te σ2 H3 fun y H4 => ∃ acc, H4 D = some (.lst acc) ∧ acc.length < sizeLine ∧ Pv (i + 1) (upd H4 D (.lst (acc ++ [y]))) else Pv (i + 1) H3) (hd : ∀ H, Pv n H → Qd H) :
    ∃ W : Nat → Nat → Hp → Prop, (∃ m, W 0 m H1) ∧ ∀ i m H, W i m H →
      (J.stop i H ∧ Qd H) ∨ (J.go i H ∧ ∃ Nx : Hp → Prop, (∀ H', Nx H' → ∃ m', m' < m ∧ W (i + 1) m' H') ∧ ∀ x H', J.yld i H x H' → g x (wipe σ vs) H' fun σ2 H2 => wipe σ2 vs = wipe σ vs ∧ tt σ2 H2 fun b H3 =>
        if b = true then te σ2 H3 fun y H4 => ∃ acc, H4 D = some (.lst acc) ∧ acc.length < sizeLine ∧ Nx (upd H4 D (.lst (acc ++ [y]))) else Nx H3) :=
  comp_it (B := fun N σ2 H2 => wipe σ2 vs = wipe σ vs ∧ tt σ2 H2 fun b H3 => if b = true then te σ2 H3 fun y H4 => ∃ acc, H4 D = some (.lst acc) ∧ acc.length < sizeLine ∧ N (upd H4 D (.lst (acc ++ [y]))) else N H3) w Pv h0 hG hs hd
/-! rules with the frame named, for the blocks of comprehensions -/
section
variable {X : Cx} {K : PySem.W.Frag}
theorem ix_listK (h : X.K = K := by rfl) : IxR X (rIxL K) := h ▸ ix_list
theorem ix_tupK (h : X.K = K := by rfl) : IxR X (rIxT K) := h ▸ ix_tup
theorem op_in_seqK (h : X.K = K := by rfl) : OpR X (compareOp .In) (rIn K false) := h ▸ op_in_seq
theorem call_tuple_ofK (h : X.K = K := by rfl) : CallR X (.type "tuple") (fun xs H Q => ∃ p ys, xs = [.ref p] ∧ ((SqL K H p ys ∧ ∀ l, H l = none → Q (.ref l) (upd H l (.tup ys))) ∨ (SqT K H p ys ∧ Q (.ref p) H))) := h ▸ call_tuple_of
theorem call_list_ofK (h : X.K = K := by rfl) : CallR X (.type "list") (fun xs H Q => ∃ p ys, xs = [.ref p] ∧ (SqL K H p ys ∨ SqT K H p ys) ∧ ∀ l, H l = none → Q (.ref l) (upd H l (.lst ys))) := h ▸ call_list_of
theorem call_len_seqK (h : X.K = K := by rfl) : CallR X (.builtin "len") (fun xs H Q => ∃ p ys, xs = [.ref p] ∧ (SqL K H p ys ∨ SqT K H p ys) ∧ Q (.int ys.length) H) := h ▸ call_len_seq
theorem pi_listK {tg l : Expr} {tl : TE} (hl : PE X l tl) (h : X.K = K := by rfl) : PI X tg l (iList K tl) := h ▸ pi_list hl
theorem pi_tupK {tg l : Expr} {tl : TE} (hl : PE X l tl) (h : X.K = K := by rfl) : PI X tg l (iTup K tl) := h ▸ pi_tup hl
theorem pe_fldK {e : Expr} {ta : TE} {f : Str} {pos : Pos} (he : PE X e ta) (hb : attributeBase e f X.env (eval e X.env) = eval e X.env) (h : X.K = K := by rfl) : PE X (.Attribute e f pos) (tFld K ta f) := h ▸ pe_fld he hb
end
end Cw

/-! ## CwA -/
namespace Cw
open PySem PySem.Spec PyProof.Rows L2 CwR
section
variable {P : Program} {w : World} {K : PySem.W.Frag} {mg : Str → Option Value} {base : Heap}
def spIsInteger : Sp := fun vs H Q _ => ∃ i : Int, vs = [.int i] ∧ Q (.bl true) H
theorem ok_is_integer (T : TF K mg) : FnOk P w K mg base CX0 1 T.f_is_integer T.d_is_integer ["value"] (spIsInteger) := by
  refine T.F_is_integer.ok sc_is_integer (fun vs H Q E h => ?_) (fun cdv A outer s H vs Q E hr h => ?_)
  · obtain ⟨z, rfl, _⟩ := h
    rfl
  · obtain ⟨i, rfl, k⟩ := h
    have nd := sc_is_integer.nd
    refine ⟨_, (pss_one (ps_ret (pe_and (pe_callB call_isi (by rfl) T.z_isinstance (by decide +kernel) (pa_cons (pv 0) (pa_cons (pe_bltn (v := .ty "int") (by rfl) T.z_int (by decide +kernel) rfl) (pa_nil)))) (pe_one (pe_not (pe_callB call_isi (by rfl) T.z_isinstance (by decide +kernel) (pa_cons (pv 0) (pa_cons (pe_bltn (v := .ty "bool") (by rfl) T.z_bool (by decide +kernel) rfl) (pa_nil))))))))), ?_⟩
    exact ⟨_, rfl, _, _, _, _, true, rfl, .ty _, .base (.int _), kit_ty (by decide +kernel), true, rfl, iteT ⟨_, rfl, _, _, _, _, false, rfl, .ty _, .base (.int _), kit_ty (by decide +kernel), false, rfl, k⟩⟩
/-- a list that stands -/
def spIsList : Sp := fun vs H Q _ => ∃ (a : Addr) (xs : List V), vs = [.ref a] ∧ H a = some (.lst xs) ∧ ∀ H', Same H H' → Q (.bl true) H'
theorem ok_is_list (T : TF K mg) : FnOk P w K mg base CX0 1 T.f_is_list T.d_is_list ["value"] (spIsList) := by
  refine T.F_is_list.ok sc_is_list (fun vs H Q E h => ?_) (fun cdv A outer s H vs Q E hr h => ?_)
  · obtain ⟨z, _, rfl, _⟩ := h
    rfl
  · obtain ⟨a, xs, rfl, ha, k⟩ := h
    have nd := sc_is_list.nd
    refine ⟨_, (pss_one (ps_ret (pe_callB call_isiT (by rfl) T.z_isinstance (by decide +kernel) (pa_cons (pv 0) (pa_cons (pe_tup (pa_cons (pe_bltn (v := .ty "list") (by rfl) T.z_list (by decide +kernel) rfl) (pa_cons (pe_bltn (v := .ty "tuple") (by rfl) T.z_tuple (by decide +kernel) rfl) (pa_nil)))) (pa_nil)))))), ?_⟩
    refine ⟨_, rfl, by show 2 ≤ sizeLine; decide, fun p hp => ?_⟩
    exact ⟨_, p, _, _, _, true, rfl, upd_same, .cons (.ty _) (.cons (.ty _) .nil), .base (.lst (by rw [upd_ne (ne_free ha hp)]; exact ha)), by rfl, k _ (same_new (Same.refl H) hp)⟩
/-- a text of plain small letters -/
def Low (cs : List Nat) : Prop := ∀ c ∈ cs, c ∈ lets
def spAreLetters : Sp := fun vs H Q _ => ∃ cs : List Nat, vs = [.str (txt cs)] ∧ Low cs ∧ cs.Nodup ∧ cs.length ≤ 26 ∧ ∀ H', Same H H' → Q (.bl true) H'
theorem all_map_true {n : Nat} {f : Nat → Bool} (h : ∀ i, i < n → f i = true) : ((List.range n).map f).all id = true := by
  rw [List.all_eq_true]
  intro x hx
  obtain ⟨i, hi, rfl⟩ := List.mem_map.mp hx
  exact h i (List.mem_range.mp hi)
theorem ok_are_letters (T : TF K mg) : FnOk P w K mg base CX0 1 T.f_are_letters T.d_are_letters ["value"] (spAreLetters) := by
  refine T.F_are_letters.ok sc_are_letters (fun vs H Q E h => ?_) (fun cdv A outer s H vs Q E hr h => ?_)
  · obtain ⟨z, rfl, _⟩ := h
    rfl
  · obtain ⟨cs, rfl, hz, hn, hl, k⟩ := h
    have nd := sc_are_letters.nd
    refine ⟨_, (pss_one (ps_ret (pe_and (pe_callB call_isi (by rfl) T.z_isinstance (by decide +kernel) (pa_cons (pv 0) (pa_cons (pe_bltn (v := .ty "str") (by rfl) T.z_str (by decide +kernel) rfl) (pa_nil)))) (pe_and (pe_callB (cr_all rfl) (by rfl) T.z_all (by decide +kernel) (pa_cons (pe_lc (own := [("letter", 1)]) (g := (gName 1)) (tt := tYes) rfl nd (pi_str (pv 0)) (blkOk_by (own := [("letter", 1)]) (N := n_are_letters) (sc := defScope s_are_letters) (by decide +kernel)) (fun _ _ _ _ _ => (pg_name (i := 1) nd rfl (by first | exact Or.inl rfl | exact Or.inr rfl))) (fun _ _ _ _ _ => pts_nil) (fun _ _ _ _ _ => (pe_cmpR op_in_sign (pv 1) (pe_glob (v := .str letters) rfl T.mgL ⟨_, rfl⟩) rfl))) (pa_nil))) (pe_one (pe_cmpR op_eq (pe_lenSetT rfl T.z_len rfl T.z_set (pv 0)) (pe_callB call_len_str (by rfl) T.z_len PySem.boot_len (pa_cons (pv 0) (pa_nil))) (nomark _))))))), ?_⟩
    refine ⟨_, rfl, _, _, _, _, true, rfl, .ty _, .base (.str _), kit_ty (by decide +kernel), true, rfl, iteT ?_⟩
    refine ⟨_, rfl, _, rfl, fun D hD => lc_fn walk_str (fun _ => true) (fun _ => .bl true) hD (by show cs.toArray.size ≤ sizeLine; simp; exact Nat.le_trans hl (by decide)) (fun _ _ => True.intro) (fun i x H1 H' k N hi s1 y kt _ => ?_) (fun H1 s1 hD1 => ?_)⟩
    · obtain ⟨rfl, c, hc, rfl⟩ := y
      refine ⟨rfl, _, rfl, c, letters, rfl, rfl, ?_⟩
      have hm : c ∈ cs := by
        have e : cs[i]? = some c := by simpa [txt] using hc
        exact List.mem_of_getElem? e
      rw [letters_tl, decide_eq_true (hz c hm)]
      exact kt rfl _ (Same.refl _)
    · rw [filter_true fun _ _ => rfl] at hD1
      refine ⟨D, _, rfl, SqL.of (by rw [List.map_map]; exact hD1), ?_⟩
      rw [all_map_true fun _ _ => rfl]
      refine ⟨true, rfl, iteT ⟨_, rfl, txt cs, rfl, ?_, hn, ?_, _, rfl, txt cs, rfl, ?_, rfl, ?_⟩⟩
      · rw [← Array.all_toList, List.all_eq_true]
        intro c hc
        have := mem_lets.mp (hz c hc)
        exact decide_eq_true (by omega)
      · show cs.length ≤ 4000
        omega
      · show cs.toArray.size ≤ sizeLine
        simp
        exact Nat.le_trans hl (by decide)
      · have e : decide (V.int ((txt cs).cps.toList.length : Nat) = V.int ((txt cs).length : Nat)) = true := decide_eq_true (by show V.int (cs.length : Nat) = V.int ((cs.toArray.size : Nat) : Int); simp)
        rw [e]
        exact k _ s1
end
end Cw

/-! ## CwB -/
namespace Cw
open PySem PySem.Spec PyProof.Rows L2 CwR
theorem filter_range {α β : Type} (xs : List α) (d : α) (q : α → Bool) (f : α → β) : ((List.range xs.length).filter (fun i => q (xs.getD i d))).map (fun i => f (xs.getD i d)) = (xs.filter q).map f := by
  have e : xs = (List.range xs.length).map (fun i => xs.getD i d) := by
    have := map_range_getD xs d (fun x => x)
    rw [List.map_id'] at this
    exact this.symm
  conv => rhs; rw [e]
  rw [List.filter_map, List.map_map]
  rfl
def sgn (c : Nat) : Str := ⟨#[c]⟩
theorem sgn_inj {a b : Nat} : sgn a = sgn b ↔ a = b := by
  constructor
  · intro h
    have : (sgn a).cps = (sgn b).cps := by rw [h]
    simpa [sgn] using this
  · intro h; rw [h]
theorem sjoin_signs : ∀ cs : List Nat, Str.join (Str.ofString "") (cs.map sgn) = txt cs
  | [] => rfl
  | [c] => rfl
  | c :: d :: r => by
    have ih := sjoin_signs (d :: r)
    show sgn c ++ Str.ofString "" ++ Str.join (Str.ofString "") ((d :: r).map sgn) = _
    rw [ih]
    show Str.append (Str.append (sgn c) (Str.ofString "")) (txt (d :: r)) = txt (c :: d :: r)
    unfold Str.append txt sgn
    have : (Str.ofString "").cps = #[] := by decide +kernel
    rw [this]
    simp
theorem join_signs (cs : List Nat) : Txt.join (Str.ofString "") (cs.map sgn) = txt cs := by rw [TL.join_eq, sjoin_signs]
theorem lets_len : lets.length = 26 := by decide
theorem letters_size : letters.cps.size = 26 := by decide +kernel
theorem letters_at {i c : Nat} (h : letters.cps[i]? = some c) : lets[i]? = some c := by rw [← letters_tl]; simpa using h
def asc (cs : List Nat) : List Nat := lets.filter (· ∈ cs)
section
variable {P : Program} {w : World} {K : PySem.W.Frag} {mg : Str → Option Value} {base : Heap}
def spAscending : Sp := fun vs H Q _ => ∃ cs : List Nat, vs = [.str (txt cs)] ∧ ∀ H', Same H H' → Q (.str (txt (asc cs))) H'
theorem ok_ascending (T : TF K mg) : FnOk P w K mg base CX0 1 T.f_ascending T.d_ascending ["letters"] (spAscending) := by
  refine T.F_ascending.ok sc_ascending (fun vs H Q E h => ?_) (fun cdv A outer s H vs Q E hr h => ?_)
  · obtain ⟨z, rfl, _⟩ := h
    rfl
  · obtain ⟨cs, rfl, k⟩ := h
    have nd := sc_ascending.nd
    refine ⟨_, (pss_one (ps_ret (pe_join pe_str (pe_lc (own := [("letter", 1)]) (g := (gName 1)) (tt := _) rfl nd (pi_str (pe_glob (v := .str letters) rfl T.mgL ⟨_, rfl⟩)) (blkOk_by (own := [("letter", 1)]) (N := n_ascending) (sc := defScope s_ascending) (by decide +kernel)) (fun _ _ _ _ _ => (pg_name (i := 1) nd rfl (by first | exact Or.inl rfl | exact Or.inr rfl))) (fun _ _ _ _ _ => pts_one (pt_cmpR op_in_sign (pv 1) (pv 0) rfl)) (fun _ _ _ _ _ => (pv 1)))))), ?_⟩
    refine ⟨⟨_, rfl⟩, letters, rfl, fun D hD => lc_fn walk_str (fun i => decide (lets.getD i 0 ∈ cs)) (fun i => .str (sgn (lets.getD i 0))) hD (by rw [letters_size]; decide) (fun _ _ => True.intro) (fun i x H1 H' k N hi s1 y kt kf => ?_) (fun H1 s1 hD1 => ?_)⟩
    · obtain ⟨rfl, c, hc, rfl⟩ := y
      have e : lets.getD i 0 = c := getD_of (letters_at hc)
      refine ⟨rfl, _, rfl, _, rfl, c, txt cs, rfl, rfl, decide (c ∈ cs), rfl, iteB _ (fun hb => ⟨_, rfl, ?_⟩) (fun hb => ?_)⟩
      · have := kt (by rw [e]; exact hb) _ (Same.refl _)
        rw [e] at this
        exact this
      · exact kf (by rw [e]; exact hb) _ (Same.refl _)
    · rw [letters_size, ← lets_len, filter_range lets 0 (fun c => decide (c ∈ cs)) (fun c => V.str (sgn c))] at hD1
      refine ⟨_, D, (asc cs).map sgn, rfl, rfl, .inl (SqL.of (by rw [List.map_map]; exact hD1)), ?_, ?_⟩
      · have h1 : (asc cs).length ≤ 26 := by rw [← lets_len]; exact List.length_filter_le _ _
        have h2 : (((asc cs).map sgn).map (·.length)).sum = (asc cs).length := by
          rw [List.map_map]
          show ((asc cs).map fun _ => 1).sum = _
          induction asc cs with
          | nil => rfl
          | cons a l ih => simp [ih]; omega
        rw [h2]
        have h3 : (Str.ofString "").length = 0 := by decide +kernel
        rw [h3]
        omega
      · rw [join_signs]
        exact k _ s1
def spNeedFew : Sp := fun vs H Q _ => ∃ cs : List Nat, vs = [.str (txt cs)] ∧ cs.length ≤ 8 ∧ Q .non H
theorem ok_need_few (T : TF K mg) : FnOk P w K mg base CX0 1 T.f_need_few T.d_need_few ["kinds"] (spNeedFew) := by
  refine T.F_need_few.ok sc_need_few (fun vs H Q E h => ?_) (fun cdv A outer s H vs Q E hr h => ?_)
  · obtain ⟨z, rfl, _⟩ := h
    rfl
  · obtain ⟨cs, rfl, hl, k⟩ := h
    have nd := sc_need_few.nd
    refine ⟨_, (pss_one (ps_if (pt_cmpR op_gt (pe_callB call_len_str (by rfl) T.z_len PySem.boot_len (pa_cons (pv 0) (pa_nil))) (pe_glob (v := .int 8) rfl T.mgM ⟨_, rfl⟩) (nomark _)) (pss_one ps_never) pss_nil)), ?_⟩
    refine ⟨_, rfl, txt cs, rfl, ?_, _, _, rfl, rfl, _, rfl, ?_⟩
    · show cs.toArray.size ≤ sizeLine
      simp
      exact Nat.le_trans hl (by decide)
    · rw [decide_eq_false (by show ¬ ((8 : Int) < (cs.toArray.size : Nat)); simp; omega)]
      exact iteF k
/-- a pair of kinds, as a text -/
def pairV (q : Nat × Nat) : V := .str (txt [q.1, q.2])
def planFs (ks : List Nat) (pr d : Addr) : List (Str × V) := [("kinds", .str (txt ks)), ("pairs", .ref pr), ("own_crossing", .ref d)]
/-- a plan's instance -/
def PlanAt (C : Addr) (H : Hp) (a : Addr) (ks : List Nat) (qs : List (Nat × Nat)) : Prop := (∀ q ∈ qs, q.1 ∈ ks ∧ q.2 ∈ ks) ∧ (∀ k ∈ ks, k ∈ lets) ∧ ∃ dx pr d, H a = some (.ins C dx (planFs ks pr d)) ∧ H pr = some (.tup (qs.map pairV))
theorem PlanAt.same {C : Addr} {H H' : Hp} {a : Addr} {ks : List Nat} {qs : List (Nat × Nat)} (h : PlanAt C H a ks qs) (s : Same H H') : PlanAt C H' a ks qs := by
  obtain ⟨h1, h2, dx, pr, d, e1, e2⟩ := h
  exact ⟨h1, h2, dx, pr, d, s _ _ e1, s _ _ e2⟩
theorem ty_plan (T : TF K mg) {H : Hp} {a : Addr} {dx : Addr} {fs : List (Str × V)} (h : H a = some (.ins T.P dx fs)) : TyX K H (.ref a) (.ref T.P) := .base (.ins h T.clP T.isP.ha T.isP.hn T.isP.ht T.isP.hm)
theorem ty_closed (T : TF K mg) {H : Hp} {a : Addr} {dx : Addr} {fs : List (Str × V)} (h : H a = some (.ins T.C dx fs)) : TyX K H (.ref a) (.ref T.C) := .base (.ins h T.clC T.isC.ha T.isC.hn T.isC.ht T.isC.hm)
def dpP (qs : List (Nat × Nat)) : List PyData := (qs.map fun q => txt [q.1, q.2]).map PyData.str
theorem dp_pairs {H : Hp} {p : Addr} {qs : List (Nat × Nat)} (h : H p = some (.tup (qs.map pairV))) : Dp K H (.ref p) (.tuple (dpP qs)) := by
  refine .tup (SqT.of h) ?_
  clear h
  induction qs with
  | nil => exact .nil
  | cons q qs ih => exact .cons (.str _) ih
theorem shaped_pairs {qs : List (Nat × Nat)} (h : ∀ q ∈ qs, q.1 ∈ lets ∧ q.2 ∈ lets) : SeqAt.shaped (.tuple (dpP qs)) = true := by
  refine (shaped_flat (strs_lay (qs.map fun q => txt [q.1, q.2]) fun z hz => ?_)).1
  obtain ⟨q, hq, rfl⟩ := List.mem_map.mp hz
  refine strOk_low fun c hc => ?_
  have e : c = q.1 ∨ c = q.2 := by simpa using hc
  rcases e with rfl | rfl
  · exact (h q hq).1
  · exact (h q hq).2
def spPlanEq (C : Addr) : Sp := fun vs H Q _ => ∃ a ks qs, vs = [.ref a, .ref a] ∧ PlanAt C H a ks qs ∧ Q (.bl true) H
theorem ok_plan_eq (T : TF K mg) : FnOk P w K mg base CX0 1 T.f_plan_eq T.d_plan_eq ["self", "other"] (spPlanEq T.P) := by
  refine T.F_plan_eq.ok sc_plan_eq (fun vs H Q E h => ?_) (fun cdv A outer s H vs Q E hr h => ?_)
  · obtain ⟨_, _, _, rfl, _⟩ := h
    rfl
  · obtain ⟨a, ks, qs, rfl, ⟨h1, h2, dx, pr, d, e1, e2⟩, k⟩ := h
    have hsh := shaped_pairs fun q hq => ⟨h2 _ (h1 q hq).1, h2 _ (h1 q hq).2⟩
    have nd := sc_plan_eq.nd
    refine ⟨_, (pss_one (ps_ret (pe_and (pe_callB call_isi (by rfl) T.z_isinstance (by decide +kernel) (pa_cons (pv 1) (pa_cons (pe_glob (v := .ref T.P) rfl T.mgP rfl) (pa_nil)))) (pe_and (pe_cmpR op_eq (pe_fld (pv 0) rfl) (pe_fld (pv 1) rfl) (nomark _)) (pe_one (pe_cmpR (op_eqD hr.units) (pe_fld (pv 0) rfl) (pe_fld (pv 1) rfl) (nomark _))))))), ?_⟩
    refine ⟨_, rfl, _, _, _, _, true, rfl, .own _, ty_plan T e1, kit_self _, true, rfl, iteT ?_⟩
    refine ⟨_, rfl, a, T.P, dx, _, _, rfl, e1, T.clP, T.noP_kinds, rfl, _, rfl, a, T.P, dx, _, _, rfl, e1, T.clP, T.noP_kinds, rfl, rfl, true, by simp, iteT ?_⟩
    refine ⟨_, rfl, a, T.P, dx, _, _, rfl, e1, T.clP, T.noP_pairs, rfl, _, rfl, a, T.P, dx, _, _, rfl, e1, T.clP, T.noP_pairs, rfl, _, _, dp_pairs e2, dp_pairs e2, hsh, hsh, ?_⟩
    rw [SeqAt.eqv_refl _ (SeqAt.canLay_of_shaped hsh)]
    exact k
end
end Cw

/-! ## CwC -/
namespace Cw
open PySem PySem.Spec PyProof.Rows L2 CwR
section
variable {P : Program} {w : World} {K : PySem.W.Frag} {mg : Str → Option Value} {base : Heap}
def spNeedSame (C : Addr) : Sp := fun vs H Q _ => ∃ a ks qs, vs = [.ref a, .ref a] ∧ PlanAt C H a ks qs ∧ Q .non H
theorem ok_need_same (T : TF K mg) : FnOk P w K mg base CX0 3 T.f_need_same T.d_need_same ["plan", "other"] (spNeedSame T.P) := by
  refine T.F_need_same.ok sc_need_same (fun vs H Q E h => ?_) (fun cdv A outer s H vs Q E hr h => ?_)
  · obtain ⟨_, _, _, rfl, _⟩ := h
    rfl
  · obtain ⟨a, ks, qs, rfl, hp, k⟩ := h
    have nd := sc_need_same.nd
    refine ⟨_, (pss_one (ps_if (pt_cmpR (op_neOwn T.neP T.m_plan_eq T.i_plan_eq T.isP.hm (ok_plan_eq T) (hr.mono (by decide)) T.b_plan_eq pass0) (pv 0) (pv 1) (nomark _)) (pss_one ps_never) pss_nil)), ?_⟩
    obtain ⟨h1, h2, dx, pr, d, e1, e2⟩ := id hp
    exact ⟨_, rfl, _, rfl, a, dx, _, a, dx, _, rfl, rfl, e1, e1, a, ks, qs, rfl, hp, true, rfl, _, rfl, iteF k⟩
/-- pairs of kinds as the caller hands them -/
def CrossOk (ks : List Nat) (cr : List (Nat × Nat)) : Prop := ∀ q ∈ cr, q.1 ∈ ks ∧ q.2 ∈ ks ∧ q.1 ≠ q.2
def spCheckedPairs : Sp := fun vs H Q _ => ∃ (ks : List Nat) (c : Addr) (cr : List (Nat × Nat)), vs = [.str (txt ks), .ref c] ∧ (∀ k ∈ ks, k ∈ lets) ∧ H c = some (.lst (cr.map pairV)) ∧ CrossOk ks cr ∧ cr.length ≤ 1000 ∧
  ∀ H' r (qs : List (Nat × Nat)), Same H H' → H' r = some (.tup (qs.map pairV)) → qs.length ≤ 676 → (∀ q ∈ qs, (q.1 ∈ ks ∧ q.2 ∈ ks) ∧ (q ∈ cr ∨ (q.2, q.1) ∈ cr)) → Q (.ref r) H'
theorem asc_mem {cs : List Nat} {c : Nat} : c ∈ asc cs ↔ c ∈ lets ∧ c ∈ cs := by unfold asc; rw [List.mem_filter]; simp
theorem lets_lt : lets.Pairwise (· < ·) := by decide
theorem asc_lt (cs : List Nat) : (asc cs).Pairwise (· < ·) := lets_lt.sublist List.filter_sublist
theorem asc_pair {p : Nat × Nat} {a b : Nat} (h : [a, b] = asc [p.1, p.2]) : (a, b) = p ∨ (b, a) = p := by
  have h1 : a ∈ asc [p.1, p.2] := by rw [← h]; simp
  have h2 : b ∈ asc [p.1, p.2] := by rw [← h]; simp
  have h3 := asc_lt [p.1, p.2]
  rw [← h] at h3
  have h4 : a < b := by simpa using h3
  have h5 := (asc_mem.mp h1).2
  have h6 := (asc_mem.mp h2).2
  simp at h5 h6
  obtain ⟨p1, p2⟩ := p
  simp at h5 h6 ⊢
  omega
def ascV (q : Nat × Nat) : V := .str (txt (asc [q.1, q.2]))
theorem flat_strs (xs : List (Nat × Nat)) : (xs.map ascV).all flatV = true := by
  rw [List.all_eq_true]
  intro x hx
  obtain ⟨q, _, rfl⟩ := List.mem_map.mp hx
  rfl
theorem inV_str {z : Str} {xs : List (Nat × Nat)} (h : inV (.str z) (xs.map ascV) = true) : ∃ q ∈ xs, z = txt (asc [q.1, q.2]) := by
  unfold inV at h
  rw [List.any_eq_true] at h
  obtain ⟨x, hx, e⟩ := h
  obtain ⟨q, hq, rfl⟩ := List.mem_map.mp hx
  refine ⟨q, hq, ?_⟩
  have : (txt (asc [q.1, q.2]) == z) = true := e
  exact (by simpa using this : txt (asc [q.1, q.2]) = z).symm
theorem sgn_add (a b : Nat) : sgn a ++ sgn b = txt [a, b] := rfl
theorem ok_checked_pairs (T : TF K mg) : FnOk P w K mg base CX0 2 T.f_checked_pairs T.d_checked_pairs ["kinds", "crossing"] (spCheckedPairs) := by
  refine T.F_checked_pairs.ok sc_checked_pairs (fun vs H Q E h => ?_) (fun cdv A outer s H vs Q E hr h => ?_)
  · obtain ⟨_, _, _, rfl, _⟩ := h
    rfl
  · obtain ⟨ks, c, cr, rfl, hks, hc, hok, hcl, k⟩ := h
    have nd := sc_checked_pairs.nd
    refine ⟨_, (pss_cons (ps_if (pt_not (pt_val (pe_call (ok_is_list T) (hr.mono (by decide)) rfl T.m_is_list T.F_is_list.kp T.b_is_list .nil pass0 (pa_cons (pv 1) (pa_nil))))) (pss_one ps_never) pss_nil)
      (pss_cons (ps_set (i := 2) nd rfl (Or.inr rfl) (pe_lst (pa_nil)))
      (pss_cons (ps_for PassesOwn.never rfl (pi_list (pv 1)) (pg_name (i := 3) nd rfl (Or.inl rfl)) (pss_cons (ps_if (PW.pt (pw_or (pt_not (pt_val (pe_callB call_isi (by rfl) T.z_isinstance (by decide +kernel) (pa_cons (pv 3) (pa_cons (pe_bltn (v := .ty "str") (by rfl) T.z_str (by decide +kernel) rfl) (pa_nil)))))) (pw_or (pt_cmpR op_ne (pe_callB call_len_str (by rfl) T.z_len PySem.boot_len (pa_cons (pv 3) (pa_nil))) pe_int (nomark _)) (pw_or1 (pt_not (pt_val (pe_call (ok_are_letters T) (hr.mono (by decide)) rfl T.m_are_letters T.F_are_letters.kp T.b_are_letters .nil pass0 (pa_cons (pv 3) (pa_nil))))))))) (pss_one ps_never) pss_nil)
      (pss_cons (ps_if (PW.pt (pw_or (pt_cmpR op_notIn_sign (pe_ix ix_str (pv 3) pe_int (fun _ _ => rfl)) (pv 0) rfl) (pw_or1 (pt_cmpR op_notIn_sign (pe_ix ix_str (pv 3) pe_int (fun _ _ => rfl)) (pv 0) rfl)))) (pss_one ps_never) pss_nil)
      (pss_one (ps_expr (pe_bm PySem.F.plainAttrs_list PySem.F.slot_list_append PySem.F.type_list_append mt_append (pv 2) (pa_cons (pe_call (ok_ascending T) (hr.mono (by decide)) rfl T.m_ascending T.F_ascending.kp T.b_ascending .nil pass0 (pa_cons (pv 3) (pa_nil))) (pa_nil))))))))
      (pss_one (ps_ret (pe_callTy call_tuple_of (by rfl) T.z_tuple (by decide +kernel) (pa_cons (pe_lc2 (own := [("a", 4), ("b", 5)]) (vs1 := [5]) (g := (gName 4)) (g1 := (gName 5)) (tt := tYes) (tt1 := _) rfl nd (pi_str (pe_glob (v := .str letters) rfl T.mgL ⟨_, rfl⟩)) (blkOk_by (own := [("a", 4), ("b", 5)]) (N := n_checked_pairs) (sc := defScope s_checked_pairs) (by decide +kernel)) (by simp) (fun _ _ _ _ _ => (pg_name (i := 4) nd rfl (by first | exact Or.inl rfl | exact Or.inr rfl))) (fun _ _ _ _ _ => pts_nil) (fun _ _ _ _ _ => (pi_str (pe_glob (v := .str letters) rfl T.mgL ⟨_, rfl⟩))) (fun _ _ _ _ _ => (pg_name (i := 5) nd rfl (by first | exact Or.inl rfl | exact Or.inr rfl))) (fun _ _ _ _ _ => pts_one (pt_cmpR (op_in_seqK (K := K)) (pe_op op_add_str (pv 4) (pv 5)) (pv 2) rfl)) (fun _ _ _ _ _ => (pe_op op_add_str (pv 4) (pv 5)))) (pa_nil)))))))), ?_⟩
    refine ⟨_, rfl, c, _, rfl, hc, fun H1 s1 => ?_⟩
    refine ⟨true, rfl, iteF ?_⟩
    refine ⟨by show 0 ≤ sizeLine; decide, fun f hf => ?_⟩
    have hcf : c ≠ f := ne_free (s1 _ _ hc) hf
    refine ⟨_, rfl, c, rfl, ⟨_, SqL.of (by rw [upd_ne hcf]; exact s1 _ _ hc)⟩, for_it (walk_list (xs := cr.map pairV)) (fun i σ H2 => (∃ o, σ = [some (.str (txt ks)), some (.ref c), some (.ref f), o, none, none]) ∧ Same H1 H2 ∧ H2 f = some (.lst ((cr.take i).map ascV)))
      ⟨⟨none, rfl⟩, same_new (Same.refl H1) hf, upd_same⟩ (fun i σ H2 _ h => SqL.of (h.2.1 _ _ (s1 _ _ hc))) (fun i x σ H2 H3 hi h y => ?_) (fun σ H2 h => ?_)⟩
    · obtain ⟨⟨o, rfl⟩, s2, h2⟩ := h
      obtain ⟨rfl, hx⟩ := y
      rw [List.getElem?_map] at hx
      cases hq : cr[i]? with
      | none => rw [hq] at hx; cases hx
      | some q =>
      rw [hq] at hx
      cases hx
      have hm := hok q (List.mem_of_getElem? hq)
      refine ⟨_, rfl, _, _, _, _, true, rfl, .ty _, .base (.str _), kit_ty (by decide +kernel), true, rfl, iteF ?_⟩
      refine ⟨_, rfl, _, rfl, ?_, rfl, _, rfl, ?_⟩
      · show 2 ≤ sizeLine
        decide
      rw [show decide (V.int ((txt [q.1, q.2]).length : Nat) = V.int 2) = true from rfl]
      refine iteF ⟨_, rfl, [q.1, q.2], rfl, ?_, ?_, by show 2 ≤ 26; decide, fun H4 s4 => ⟨true, rfl, iteF ?_⟩⟩
      · intro c hc
        have e : c = q.1 ∨ c = q.2 := by simpa using hc
        rcases e with rfl | rfl
        · exact hks _ hm.1
        · exact hks _ hm.2.1
      · simp
        exact hm.2.2
      refine ⟨_, rfl, txt [q.1, q.2], 0, q.1, rfl, rfl, ?_, rfl, _, rfl, q.1, txt ks, rfl, rfl, _, rfl, ?_⟩
      · show 2 ≤ sizeLine
        decide
      rw [show decide (q.1 ∈ (txt ks).cps.toList) = true from decide_eq_true hm.1]
      refine iteF ⟨_, rfl, txt [q.1, q.2], 1, q.2, rfl, rfl, ?_, rfl, _, rfl, q.2, txt ks, rfl, rfl, _, rfl, ?_⟩
      · show 2 ≤ sizeLine
        decide
      rw [show decide (q.2 ∈ (txt ks).cps.toList) = true from decide_eq_true hm.2.1]
      refine iteF ?_
      refine ⟨_, rfl, .inl ⟨rfl, _, SqL.of (s4 _ _ h2)⟩, _, rfl, [q.1, q.2], rfl, fun H5 s5 => ?_⟩
      refine ⟨f, _, _, rfl, rfl, s5 _ _ (s4 _ _ h2), ?_, ⟨_, rfl⟩, same_new ((s2.trans s4).trans s5) hf, ?_⟩
      · rw [List.length_map]
        have := List.length_take_le i cr
        rw [List.length_map] at hi
        have : sizeLine ≥ 2000 := by decide
        omega
      · rw [upd_same]
        have e : cr.take (i + 1) = cr.take i ++ [q] := by rw [List.take_add_one, hq]; rfl
        rw [e, List.map_append]
        rfl
    · obtain ⟨⟨o, rfl⟩, s2, h2⟩ := h
      rw [List.length_map, List.take_of_length_le (Nat.le_refl _)] at h2
      refine ⟨letters, rfl, fun D hD => ?_⟩
      let R : Nat → Hp → Prop := fun n H3 => Same H2 H3 ∧ ∃ qs : List (Nat × Nat), H3 D = some (.lst (qs.map pairV)) ∧ qs.length ≤ n ∧ ∀ q ∈ qs, q ∈ cr ∨ (q.2, q.1) ∈ cr
      refine comp_it walk_str (fun i H3 => R (26 * i) H3) ⟨same_new (Same.refl H2) hD, [], upd_same, by simp, fun q hq => by cases hq⟩ (fun _ _ _ _ => True.intro) (fun i x H3 H4 hi r y => ?_) (fun H3 r => ?_)
      · obtain ⟨rfl, a, ha, rfl⟩ := y
        refine ⟨rfl, ?_⟩
        refine iteT (B := R (26 * (i + 1)) H4) ?_
        refine ⟨letters, rfl, lc_in walk_str (fun j H4 => R (26 * i + j) H4) r (fun _ _ _ _ => True.intro) (fun j x H4 H5 hj r y => ?_) (fun H3 r => ?_)⟩
        · obtain ⟨rfl, b, hb, rfl⟩ := y
          obtain ⟨s3, qs, hq, hl, hm⟩ := r
          refine ⟨rfl, _, rfl, _, rfl, sgn a, sgn b, rfl, rfl, by show 2 ≤ sizeLine; decide, _, rfl, f, _, rfl, .inl (SqL.of (s3 _ _ h2)), rfl, flat_strs cr, _, rfl, iteB _ (fun hb => ?_) (fun hb => ?_)⟩
          · have hb : inV (.str (sgn a ++ sgn b)) (cr.map ascV) = true := hb
            obtain ⟨q, hqm, e⟩ := inV_str hb
            rw [sgn_add, txt_inj] at e
            have hp := asc_pair e
            refine ⟨_, rfl, _, rfl, sgn a, sgn b, rfl, rfl, by show 2 ≤ sizeLine; decide, _, hq, ?_, ?_⟩
            · rw [List.length_map]
              rw [letters_size] at hi hj
              have : sizeLine ≥ 2000 := by decide
              omega
            · refine ⟨same_new s3 hD, qs ++ [(a, b)], ?_, ?_, ?_⟩
              · rw [upd_same, List.map_append]
                rfl
              · rw [List.length_append]
                show qs.length + 1 ≤ _
                omega
              · intro z hz
                rcases List.mem_append.mp hz with hz | hz
                · exact hm z hz
                · rw [List.mem_singleton.mp hz]
                  rcases hp with hp | hp
                  · left; rw [hp]; exact hqm
                  · right; rw [hp]; exact hqm
          · exact ⟨s3, qs, hq, by omega, hm⟩
        · rw [letters_size] at r
          exact r
      · rw [letters_size] at r
        obtain ⟨s3, qs, hq, hl, hm⟩ := r
        refine ⟨D, _, rfl, .inl ⟨SqL.of hq, fun l hl2 => ?_⟩⟩
        refine k _ l qs (same_new ((s1.trans s2).trans s3) ?_) upd_same hl (fun q hq => ⟨?_, hm q hq⟩)
        · exact Same.free ((s1.trans s2).trans s3) hl2
        · rcases hm q hq with h | h
          · exact ⟨(hok _ h).1, (hok _ h).2.1⟩
          · exact ⟨(hok _ h).2.1, (hok _ h).1⟩
end
end Cw

/-! ## CwD -/
namespace Cw
open PySem PySem.Spec PyProof.Rows L2 CwR
/-- all but a is as it was -/
def KeepBut (a : Addr) (H H' : Hp) : Prop := ∀ b o, b ≠ a → H b = some o → H' b = some o
theorem KeepBut.refl (a : Addr) (H : Hp) : KeepBut a H H := fun _ _ _ h => h
theorem KeepBut.same {a : Addr} {H H1 H2 : Hp} (k : KeepBut a H H1) (s : Same H1 H2) : KeepBut a H H2 := fun b o hb h => s b o (k b o hb h)
theorem KeepBut.put {a : Addr} {H H1 : Hp} {o : HO} (k : KeepBut a H H1) : KeepBut a H (upd H1 a o) := fun b u hb h => by rw [upd_ne hb]; exact k b u hb h
theorem KeepBut.trans {a : Addr} {H H1 H2 : Hp} (k : KeepBut a H H1) (s : KeepBut a H1 H2) : KeepBut a H H2 := fun b o hb h => s b o hb (k b o hb h)
theorem sum_signs (cs : List Nat) : ((cs.map sgn).map (·.length)).sum = cs.length := by
  rw [List.map_map]
  show (cs.map fun _ => 1).sum = _
  induction cs with
  | nil => rfl
  | cons a l ih => simp [ih]; omega
theorem txt_at {cs : List Nat} {i c : Nat} (h : (txt cs).cps[i]? = some c) : cs[i]? = some c := by simpa [txt] using h
theorem txt_size (cs : List Nat) : (txt cs).cps.size = cs.length := by simp [txt]
theorem flat_pairs (xs : List (Nat × Nat)) : (xs.map pairV).all flatV = true := by
  rw [List.all_eq_true]
  intro x hx
  obtain ⟨q, _, rfl⟩ := List.mem_map.mp hx
  rfl
section
variable {P : Program} {w : World} {K : PySem.W.Frag} {mg : Str → Option Value} {base : Heap}
def spCrossingTable : Sp := fun vs H Q _ => ∃ (ks : List Nat) (r : Addr) (qs : List (Nat × Nat)), vs = [.str (txt ks), .ref r] ∧ ks.length ≤ 26 ∧ H r = some (.tup (qs.map pairV)) ∧ ∀ H' d, Same H H' → Q (.ref d) H'
theorem ok_crossing_table (T : TF K mg) : FnOk P w K mg base CX0 1 T.f_crossing_table T.d_crossing_table ["kinds", "pairs"] (spCrossingTable) := by
  refine T.F_crossing_table.ok sc_crossing_table (fun vs H Q E h => ?_) (fun cdv A outer s H vs Q E hr h => ?_)
  · obtain ⟨_, _, _, rfl, _⟩ := h
    rfl
  · obtain ⟨ks, r, qs, rfl, hl, hq, k⟩ := h
    have nd := sc_crossing_table.nd
    refine ⟨_, (pss_cons (ps_set (i := 2) nd rfl (Or.inl rfl) pe_dnewK)
      (pss_cons (ps_for PassesOwn.never rfl (pi_str (pv 0)) (pg_name (i := 3) nd rfl (Or.inr rfl)) (pss_one (ps_dput (hu_of hr) (pv 2) (pv 3) (pe_join pe_str (pe_lc (own := [("other", 4)]) (g := (gName 4)) (tt := _) rfl nd (pi_str (pv 0)) (blkOk_by (own := [("other", 4)]) (N := n_crossing_table) (sc := defScope s_crossing_table) (by decide +kernel)) (fun _ _ _ _ _ => (pg_name (i := 4) nd rfl (by first | exact Or.inl rfl | exact Or.inr rfl))) (fun _ _ _ _ _ => pts_one (PW.pt (pw_or (pt_cmpR (op_in_seqK (K := K)) (pe_op op_add_str (pv 3) (pv 4)) (pv 1) rfl) (pw_or1 (pt_cmpR (op_in_seqK (K := K)) (pe_op op_add_str (pv 4) (pv 3)) (pv 1) rfl))))) (fun _ _ _ _ _ => (pv 4)))) rfl)))
      (pss_one (ps_ret (pv 2))))), ?_⟩
    intro d hd
    refine ⟨_, rfl, txt ks, rfl, for_it walk_str (fun i σ H1 => (∃ o, σ = [some (.str (txt ks)), some (.ref r), some (.ref d), o, none]) ∧ Same H H1 ∧ ∃ kvs, H1 d = some (.dK kvs) ∧ kvs.length ≤ i)
      ⟨⟨none, rfl⟩, same_new (Same.refl H) hd, [], upd_same, by simp⟩ (fun _ _ _ _ _ => True.intro) (fun i x σ H1 H2 hi h y => ?_) (fun σ H1 h => ?_)⟩
    · obtain ⟨⟨o, rfl⟩, s1, kvs, e1, hk⟩ := h
      obtain ⟨rfl, c, hc, rfl⟩ := y
      refine ⟨⟨_, rfl⟩, _, rfl, txt ks, rfl, fun D hD => ?_⟩
      refine lc_fn walk_str (fun i => inV (.str (sgn c ++ sgn (ks.getD i 0))) (qs.map pairV) || inV (.str (sgn (ks.getD i 0) ++ sgn c)) (qs.map pairV)) (fun i => .str (sgn (ks.getD i 0))) hD (by rw [txt_size]; exact Nat.le_trans hl (by decide)) (fun _ _ => True.intro) (fun i x H1 H' k N hi s2 y kt kf => ?_) (fun H3 s3 hD3 => ?_)
      · obtain ⟨rfl, b, hb, rfl⟩ := y
        have e : ks.getD i 0 = b := getD_of (txt_at hb)
        rw [e] at kt kf
        refine ⟨rfl, ⟨_, rfl, _, rfl, sgn c, sgn b, rfl, rfl, by show 2 ≤ sizeLine; decide, _, rfl, r, _, rfl, .inr (SqT.of (s2 _ _ (s1 _ _ hq))), rfl, flat_pairs qs, _, rfl, iteB _ (fun h1 => ?_) (fun h1 => ?_)⟩⟩
        · have h1 : inV (.str (sgn c ++ sgn b)) (qs.map pairV) = true := h1
          refine iteT ⟨_, rfl, kt (by rw [h1]; rfl) _ (Same.refl _)⟩
        · have h1 : inV (.str (sgn c ++ sgn b)) (qs.map pairV) = false := h1
          refine ⟨_, rfl, _, rfl, sgn b, sgn c, rfl, rfl, by show 2 ≤ sizeLine; decide, _, rfl, r, _, rfl, .inr (SqT.of (s2 _ _ (s1 _ _ hq))), rfl, flat_pairs qs, _, rfl, iteB _ (fun h2 => ?_) (fun h2 => ?_)⟩
          · have h2 : inV (.str (sgn b ++ sgn c)) (qs.map pairV) = true := h2
            exact ⟨_, rfl, kt (by rw [h1, h2]; rfl) _ (Same.refl _)⟩
          · have h2 : inV (.str (sgn b ++ sgn c)) (qs.map pairV) = false := h2
            exact kf (by rw [h1, h2]; rfl) _ (Same.refl _)
      · generalize hp : (fun i => inV (.str (sgn c ++ sgn (ks.getD i 0))) (qs.map pairV) || inV (.str (sgn (ks.getD i 0) ++ sgn c)) (qs.map pairV)) = p at hD3
        generalize hz : (((List.range (txt ks).cps.size).filter p).map fun i => ks.getD i 0) = zs
        have hD4 : H3 D = some (.lst ((zs.map sgn).map V.str)) := by
          rw [hD3, ← hz, List.map_map, List.map_map]
          rfl
        refine ⟨_, D, zs.map sgn, rfl, rfl, .inl (SqL.of hD4), ?_, ?_⟩
        · have h1 : zs.length ≤ ks.length := by
            rw [← hz, List.length_map]
            have := List.length_filter_le p (List.range (txt ks).cps.size)
            rw [List.length_range, txt_size] at this
            exact this
          rw [sum_signs]
          have h3 : (Str.ofString "").length = 0 := by decide +kernel
          rw [h3]
          omega
        · rw [join_signs]
          refine ⟨_, rfl, _, rfl, d, _, rfl, DPut.k (k := Sum.inr (sgn c)) (s3 _ _ e1) ?_, ⟨_, rfl⟩, same_new (s1.trans s3) hd, _, upd_same, ?_⟩
          · rw [txt_size] at hi
            have : sizeLine ≥ 2000 := by decide
            omega
          · have := length_putK kvs (Sum.inr (sgn c)) (V.str (txt zs))
            omega
    · obtain ⟨⟨o, rfl⟩, s1, kvs, e1, hk⟩ := h
      exact ⟨_, rfl, k _ d s1⟩
/-- Plan(kinds, crossing) -/
def spPlanInit (C : Addr) : Sp := fun vs H Q _ => ∃ (a dx : Addr) (cs : List Nat) (c : Addr) (cr : List (Nat × Nat)), vs = [.ref a, .str (txt cs), .ref c] ∧ H a = some (.ins C dx []) ∧ Low cs ∧ cs.Nodup ∧ cs.length ≤ 8 ∧ H c = some (.lst (cr.map pairV)) ∧ CrossOk cs cr ∧ cr.length ≤ 1000 ∧
  ∀ H' qs, KeepBut a H H' → PlanAt C H' a (asc cs) qs → (∀ q ∈ qs, q ∈ cr ∨ (q.2, q.1) ∈ cr) → qs.length ≤ 676 → Q .non H'
theorem asc_len (cs : List Nat) : (asc cs).length ≤ cs.length := by
  have hn : (asc cs).Nodup := (asc_lt cs).imp fun h => Nat.ne_of_lt h
  exact nodup_sub_length hn fun x hx => (asc_mem.mp hx).2
theorem mk_P (T : TF K mg) : Mk K T.P T.f_plan_init := ⟨T.mkP, T.m_plan_init, T.i_plan_init, T.kpP⟩
theorem mk_C (T : TF K mg) : Mk K T.C T.f_closed_init := ⟨T.mkC, T.m_closed_init, T.i_closed_init, T.kpC⟩
theorem ok_plan_init (T : TF K mg) : FnOk P w K mg base CX0 3 T.f_plan_init T.d_plan_init ["self", "kinds", "crossing"] (spPlanInit T.P) := by
  refine L2.FunD.ok T.F_plan_init sc_plan_init (fun vs H Q E h => ?_) (fun cdv A outer s H vs Q E hr h => ?_)
  · obtain ⟨_, _, _, _, _, rfl, _⟩ := h
    rfl
  · obtain ⟨a, dx, cs, c, cr, rfl, ha, hlow, hnd, hl, hc, hok, hcl, k⟩ := h
    have nd := sc_plan_init.nd
    refine ⟨_, (pss_cons (ps_if (pt_not (pt_val (pe_call (ok_are_letters T) (hr.mono (by decide)) rfl T.m_are_letters T.F_are_letters.kp T.b_are_letters .nil pass0 (pa_cons (pv 1) (pa_nil))))) (pss_one ps_never) pss_nil)
      (pss_cons (ps_fld (pv 0) (pe_call (ok_ascending T) (hr.mono (by decide)) rfl T.m_ascending T.F_ascending.kp T.b_ascending .nil pass0 (pa_cons (pv 1) (pa_nil))) rfl)
      (pss_cons (ps_fld (pv 0) (pe_call (ok_checked_pairs T) (hr.mono (by decide)) rfl T.m_checked_pairs T.F_checked_pairs.kp T.b_checked_pairs .nil pass0 (pa_cons (pe_fld (pv 0) rfl) (pa_cons (pv 2) (pa_nil)))) rfl)
      (pss_cons (ps_expr (pe_call (ok_need_few T) (hr.mono (by decide)) rfl T.m_need_few T.F_need_few.kp T.b_need_few .nil pass0 (pa_cons (pe_fld (pv 0) rfl) (pa_nil))))
      (pss_one (ps_fld (pv 0) (pe_call (ok_crossing_table T) (hr.mono (by decide)) rfl T.m_crossing_table T.F_crossing_table.kp T.b_crossing_table .nil pass0 (pa_cons (pe_fld (pv 0) rfl) (pa_cons (pe_fld (pv 0) rfl) (pa_nil)))) rfl)))))), ?_⟩
    have hca : c ≠ a := ne_of hc ha (by intro z; cases z)
    refine ⟨_, rfl, cs, rfl, hlow, hnd, by omega, fun H1 s1 => ⟨true, rfl, iteF ?_⟩⟩
    refine ⟨_, rfl, cs, rfl, fun H2 s2 => ?_⟩
    refine ⟨_, rfl, a, T.P, dx, _, rfl, s2 _ _ (s1 _ _ ha), T.clP, T.noP_kinds, by decide, ?_⟩
    have k2 : KeepBut a H (upd H2 a (.ins T.P dx (putF "kinds" (.str (txt (asc cs))) []))) := (((KeepBut.refl a H).same s1).same s2).put
    refine ⟨_, rfl, a, T.P, dx, _, _, rfl, upd_same, T.clP, T.noP_kinds, rfl, _, rfl, asc cs, c, cr, rfl, fun k hk => (asc_mem.mp hk).1, k2 _ _ hca hc, fun q hq => ?_, hcl, fun H3 r qs s3 hr hql hqs => ?_⟩
    · obtain ⟨h1, h2, h3⟩ := hok q hq
      exact ⟨asc_mem.mpr ⟨hlow _ h1, h1⟩, asc_mem.mpr ⟨hlow _ h2, h2⟩, h3⟩
    have e3 := s3 _ _ (upd_same (H := H2) (a := a) (o := .ins T.P dx (putF "kinds" (.str (txt (asc cs))) [])))
    have hra : r ≠ a := ne_of hr e3 (by intro z; cases z)
    refine ⟨_, rfl, a, T.P, dx, _, rfl, e3, T.clP, T.noP_pairs, by show 1 < 1000; decide, ?_⟩
    have k3 := (k2.same s3).put (o := .ins T.P dx (putF "pairs" (.ref r) (putF "kinds" (.str (txt (asc cs))) [])))
    refine ⟨_, rfl, a, T.P, dx, _, _, rfl, upd_same, T.clP, T.noP_kinds, rfl, asc cs, rfl, Nat.le_trans (asc_len cs) hl, ?_⟩
    have hr4 : upd H3 a (.ins T.P dx (putF "pairs" (.ref r) (putF "kinds" (.str (txt (asc cs))) []))) r = some (.tup (qs.map pairV)) := by rw [upd_ne hra]; exact hr
    refine ⟨_, rfl, a, T.P, dx, _, _, rfl, upd_same, T.clP, T.noP_kinds, rfl, _, rfl, a, T.P, dx, _, _, rfl, upd_same, T.clP, T.noP_pairs, rfl, asc cs, r, qs, rfl, ?_, hr4, fun H5 d s5 => ?_⟩
    · have := asc_len cs
      omega
    refine ⟨_, rfl, a, T.P, dx, _, rfl, s5 _ _ upd_same, T.clP, T.noP_own_crossing, by show 2 < 1000; decide, ?_⟩
    refine k _ qs (k3.same s5).put ⟨fun q hq => (hqs q hq).1, fun k hk => (asc_mem.mp hk).1, dx, r, d, upd_same, ?_⟩ (fun q hq => (hqs q hq).2) hql
    rw [upd_ne hra]
    exact s5 _ _ hr4
end
end Cw

/-! ## CwE -/
namespace Cw
open PySem PySem.Spec PyProof.Rows L2 CwR
theorem at_sgn (ks : List Nat) (c i : Nat) : StrLaws.At (txt ks) (sgn c) (txt ks).length i ↔ ks[i]? = some c := by
  have hy : TL.tl (sgn c) ≠ [] := by show [c] ≠ []; simp
  rw [TL.at_iff hy]
  show ((ks.drop i).take 1 == [c]) = true ↔ _
  rw [beq_iff_eq, ← List.head?_drop]
  cases ks.drop i with
  | nil => simp
  | cons a l => simp
theorem idxOf_le : ∀ {ks : List Nat} {c i : Nat}, ks[i]? = some c → ks.idxOf c ≤ i
  | [], c, i, h => by cases h
  | k :: ks, c, i, h => by
    rw [List.idxOf_cons]
    by_cases e : (k == c) = true
    · rw [e]; exact Nat.zero_le _
    · rw [Bool.not_eq_true] at e
      rw [e]
      cases i with
      | zero =>
        have : k = c := by simpa using h
        simp [this] at e
      | succ i =>
        have h' : ks[i]? = some c := by simpa using h
        have := idxOf_le h'
        show ks.idxOf c + 1 ≤ i + 1
        omega
theorem find_sgn {ks : List Nat} {c : Nat} (h : c ∈ ks) : Txt.find (txt ks) (sgn c) = (ks.idxOf c : Nat) := by
  have hl := List.idxOf_lt_length_of_mem h
  have e : ks[ks.idxOf c]? = some c := by rw [List.getElem?_eq_getElem hl, List.getElem_idxOf hl]
  rcases find_whole (txt ks) (sgn c) with ⟨_, hn⟩ | ⟨i, hi, ha, hn⟩
  · exact absurd ((at_sgn ks c _).mpr e) (hn _)
  · rw [hi]
    rw [at_sgn] at ha
    have h1 : ¬ ks.idxOf c < i := fun q => hn _ q ((at_sgn ks c _).mpr e)
    have h2 := idxOf_le ha
    have : i = ks.idxOf c := by omega
    rw [this]
/-- rows at their addresses -/
def RowsAt (H : Hp) (rs : List Addr) (T : Tab) (mk : List V → HO) : Prop := rs.length = T.length ∧ ∀ (k : Nat) (r : Addr) (row : List Nat), rs[k]? = some r → T[k]? = some row → H r = some (mk (row.map iv))
def TabAt (H : Hp) (t : Addr) (T : Tab) : Prop := ∃ rs : List Addr, H t = some (.tup (rs.map V.ref)) ∧ RowsAt H rs T .tup
def LTab (H : Hp) (t : Addr) (T : Tab) : Prop := ∃ rs : List Addr, H t = some (.lst (rs.map V.ref)) ∧ RowsAt H rs T .lst
theorem RowsAt.same {H H' : Hp} {rs : List Addr} {T : Tab} {mk : List V → HO} (h : RowsAt H rs T mk) (s : Same H H') : RowsAt H' rs T mk := ⟨h.1, fun k r row a b => s _ _ (h.2 k r row a b)⟩
theorem TabAt.same {H H' : Hp} {t : Addr} {T : Tab} (h : TabAt H t T) (s : Same H H') : TabAt H' t T := by
  obtain ⟨rs, a, b⟩ := h
  exact ⟨rs, s _ _ a, b.same s⟩
theorem RowsAt.at {H : Hp} {rs : List Addr} {T : Tab} {mk : List V → HO} (h : RowsAt H rs T mk) {k : Nat} {row : List Nat} (e : T[k]? = some row) : ∃ r, rs[k]? = some r ∧ H r = some (mk (row.map iv)) := by
  have hk : k < rs.length := by rw [h.1]; exact (List.getElem?_eq_some_iff.mp e).1
  exact ⟨rs[k], List.getElem?_eq_getElem hk, h.2 k _ row (List.getElem?_eq_getElem hk) e⟩
theorem RowsAt.row {H : Hp} {rs : List Addr} {T : Tab} {mk : List V → HO} (h : RowsAt H rs T mk) {k : Nat} {x : V} (e : (rs.map V.ref)[k]? = some x) : ∃ r row, x = .ref r ∧ rs[k]? = some r ∧ T[k]? = some row ∧ H r = some (mk (row.map iv)) := by
  rw [List.getElem?_map] at e
  cases hr : rs[k]? with
  | none => rw [hr] at e; cases e
  | some r =>
    rw [hr] at e
    cases e
    have hk : k < T.length := by rw [← h.1]; exact (List.getElem?_eq_some_iff.mp hr).1
    exact ⟨r, T[k], rfl, rfl, List.getElem?_eq_getElem hk, h.2 k r _ hr (List.getElem?_eq_getElem hk)⟩
theorem iv_at {row : List Nat} {i : Nat} (h : i < row.length) : atI (row.map iv) (i : Int) = some (iv (row.getD i 0)) := by
  refine atI_nat ?_
  rw [List.getElem?_map, List.getElem?_eq_getElem h]
  simp [List.getD_eq_getElem?_getD, List.getElem?_eq_getElem h]
theorem iv_get {row : List Nat} {i : Nat} {x : V} (h : (row.map iv)[i]? = some x) : i < row.length ∧ x = iv (row.getD i 0) := by
  have hi : i < row.length := by have := (List.getElem?_eq_some_iff.mp h).1; simpa using this
  refine ⟨hi, ?_⟩
  rw [List.getElem?_map, List.getElem?_eq_getElem hi] at h
  have h2 : iv row[i] = x := Option.some.inj h
  rw [← h2]
  simp [List.getD_eq_getElem?_getD, List.getElem?_eq_getElem hi]
section
variable {P : Program} {w : World} {K : PySem.W.Frag} {mg : Str → Option Value} {base : Heap}
def spIsTableRow : Sp := fun vs H Q _ => ∃ (r : Addr) (row : List Nat), vs = [.ref r, .non] ∧ H r = some (.lst (row.map iv)) ∧ 0 < row.length ∧ row.length ≤ 100000 ∧ ∀ H', Same H H' → Q (.bl true) H'
theorem ok_is_table_row (T : TF K mg) : FnOk P w K mg base CX0 2 T.f_is_table_row T.d_is_table_row ["value", "many"] (spIsTableRow) := by
  refine T.F_is_table_row.ok sc_is_table_row (fun vs H Q E h => ?_) (fun cdv A outer s H vs Q E hr h => ?_)
  · obtain ⟨_, _, rfl, _⟩ := h
    rfl
  · obtain ⟨r, row, rfl, hrow, hl, hb, k⟩ := h
    have nd := sc_is_table_row.nd
    refine ⟨_, (pss_cons (ps_if (PW.pt (pw_or (pt_not (pt_val (pe_call (ok_is_list T) (hr.mono (by decide)) rfl T.m_is_list T.F_is_list.kp T.b_is_list .nil pass0 (pa_cons (pv 0) (pa_nil))))) (pw_or (pt_cmpR op_eq (pe_callB call_len_seq (by rfl) T.z_len PySem.boot_len (pa_cons (pv 0) (pa_nil))) pe_int (nomark _)) (pw_or1 (PW.pt (pw_and (pt_cmpR op_notN (pv 1) pe_non (nomark _)) (pw_and1 (pt_cmpR op_ne (pe_callB call_len_seq (by rfl) T.z_len PySem.boot_len (pa_cons (pv 0) (pa_nil))) (pv 1) (nomark _))))))))) (pss_one (ps_ret pe_bl)) pss_nil)
      (pss_one (ps_ret (pe_callB (cr_all rfl) (by rfl) T.z_all (by decide +kernel) (pa_cons (pe_lc (own := [("entry", 2)]) (g := (gName 2)) (tt := tYes) rfl nd (pi_list (pv 0)) (blkOk_by (own := [("entry", 2)]) (N := n_is_table_row) (sc := defScope s_is_table_row) (by decide +kernel)) (fun _ _ _ _ _ => (pg_name (i := 2) nd rfl (by first | exact Or.inl rfl | exact Or.inr rfl))) (fun _ _ _ _ _ => pts_nil) (fun _ _ _ _ _ => (pe_call (ok_is_integer T) (hr.mono (by decide)) rfl T.m_is_integer T.F_is_integer.kp T.b_is_integer .nil pass0 (pa_cons (pv 2) (pa_nil))))) (pa_nil)))))), ?_⟩
    refine ⟨_, rfl, r, _, rfl, hrow, fun H1 s1 => ⟨true, rfl, iteF ?_⟩⟩
    refine ⟨_, rfl, r, _, rfl, .inl (SqL.of (s1 _ _ hrow)), rfl, _, rfl, ?_⟩
    rw [show decide (V.int ((row.map iv).length : Nat) = V.int 0) = false from decide_eq_false (by rw [List.length_map]; intro h; injection h with h; omega)]
    refine iteF ?_
    refine ⟨_, rfl, rfl, _, rfl, iteF ?_⟩
    refine iteF ?_
    refine ⟨_, rfl, r, rfl, ⟨_, SqL.of (s1 _ _ hrow)⟩, fun D hD => lc_fn (walk_list (xs := row.map iv)) (fun _ => true) (fun _ => .bl true) hD (by rw [List.length_map]; exact Nat.le_trans hb (by decide)) (fun H2 s2 => SqL.of (s2 _ _ (s1 _ _ hrow))) (fun i x H2 H' k N hi s2 y kt _ => ?_) (fun H2 s2 hD2 => ?_)⟩
    · obtain ⟨rfl, hx⟩ := y
      obtain ⟨hi2, rfl⟩ := iv_get hx
      exact ⟨rfl, _, rfl, _, rfl, kt rfl _ (Same.refl _)⟩
    · rw [filter_true fun _ _ => rfl] at hD2
      refine ⟨D, _, rfl, SqL.of (by rw [List.map_map]; exact hD2), ?_⟩
      rw [all_map_true fun _ _ => rfl]
      exact k _ (s1.trans s2)
def spTableRows (C : Addr) : Sp := fun vs H Q _ => ∃ (p t : Addr) (ks : List Nat) (qs : List (Nat × Nat)) (T : Tab) (m : Nat), vs = [.ref p, .ref t, .non] ∧ PlanAt C H p ks qs ∧ LTab H t T ∧ T.length = ks.length ∧ ks.length ≤ 26 ∧ 0 < m ∧ m ≤ 100000 ∧ (∀ row ∈ T, row.length = m) ∧
  ∀ H' t', Same H H' → TabAt H' t' T → Q (.ref t') H'
theorem ok_table_rows (T : TF K mg) : FnOk P w K mg base CX0 3 T.f_table_rows T.d_table_rows ["plan", "tables", "many"] (spTableRows T.P) := by
  refine T.F_table_rows.ok sc_table_rows (fun vs H Q E h => ?_) (fun cdv A outer s H vs Q E hr h => ?_)
  · obtain ⟨_, _, _, _, _, _, rfl, _⟩ := h
    rfl
  · obtain ⟨p, t, ks, qs, TT, m, rfl, hp, ⟨rs, ht, hrs⟩, hl, hk, hm, hmb, hrow, k⟩ := h
    have nd := sc_table_rows.nd
    refine ⟨_, (pss_cons (ps_if (PW.pt (pw_or (pt_not (pt_val (pe_call (ok_is_list T) (hr.mono (by decide)) rfl T.m_is_list T.F_is_list.kp T.b_is_list .nil pass0 (pa_cons (pv 1) (pa_nil))))) (pw_or1 (pt_cmpR op_ne (pe_callB call_len_seq (by rfl) T.z_len PySem.boot_len (pa_cons (pv 1) (pa_nil))) (pe_callB call_len_str (by rfl) T.z_len PySem.boot_len (pa_cons (pe_fld (pv 0) rfl) (pa_nil))) (nomark _))))) (pss_one ps_never) pss_nil)
      (pss_cons (ps_for PassesOwn.never rfl (pi_list (pv 1)) (pg_name (i := 3) nd rfl (Or.inl rfl)) (pss_one (ps_if (PW.pt (pw_or (pt_not (pt_val (pe_call (ok_is_table_row T) (hr.mono (by decide)) rfl T.m_is_table_row T.F_is_table_row.kp T.b_is_table_row .nil pass0 (pa_cons (pv 3) (pa_cons (pv 2) (pa_nil)))))) (pw_or1 (pt_cmpR op_ne (pe_callB call_len_seq (by rfl) T.z_len PySem.boot_len (pa_cons (pv 3) (pa_nil))) (pe_callB call_len_seq (by rfl) T.z_len PySem.boot_len (pa_cons (pe_ix ix_list (pv 1) pe_int (fun _ _ => rfl)) (pa_nil))) (nomark _))))) (pss_one ps_never) pss_nil)))
      (pss_one (ps_ret (pe_callTy call_tuple_of (by rfl) T.z_tuple (by decide +kernel) (pa_cons (pe_lc (own := [("row", 3)]) (g := (gName 3)) (tt := tYes) rfl nd (pi_list (pv 1)) (blkOk_by (own := [("row", 3)]) (N := n_table_rows) (sc := defScope s_table_rows) (by decide +kernel)) (fun _ _ _ _ _ => (pg_name (i := 3) nd rfl (by first | exact Or.inl rfl | exact Or.inr rfl))) (fun _ _ _ _ _ => pts_nil) (fun _ _ _ _ _ => (pe_callTy (call_tuple_ofK (K := K)) (by rfl) T.z_tuple (by decide +kernel) (pa_cons (pv 3) (pa_nil))))) (pa_nil))))))), ?_⟩
    refine ⟨_, rfl, t, _, rfl, ht, fun H1 s1 => ⟨true, rfl, iteF ?_⟩⟩
    obtain ⟨_, _, dx, pr, d, e1, e2⟩ := hp.same s1
    refine ⟨_, rfl, t, _, rfl, .inl (SqL.of (s1 _ _ ht)), ?_⟩
    refine ⟨_, rfl, p, T.P, dx, _, _, rfl, e1, T.clP, T.noP_kinds, rfl, txt ks, rfl, ?_, rfl, _, rfl, ?_⟩
    · show (txt ks).cps.size ≤ sizeLine
      rw [txt_size]
      exact Nat.le_trans hk (by decide)
    rw [show decide (V.int ((rs.map V.ref).length : Nat) = V.int ((txt ks).length : Nat)) = true from decide_eq_true (by
      have : (txt ks).length = ks.length := txt_size ks
      rw [List.length_map, this, hrs.1, hl])]
    refine iteF ?_
    have ht1 := s1 _ _ ht
    have hrs1 := hrs.same s1
    refine ⟨_, rfl, t, rfl, ⟨_, SqL.of ht1⟩, for_it (walk_list (xs := rs.map V.ref)) (fun i σ H2 => (∃ o, σ = [some (.ref p), some (.ref t), some .non, o]) ∧ Same H1 H2) ⟨⟨none, rfl⟩, Same.refl _⟩ (fun i σ H2 _ h => SqL.of (h.2 _ _ ht1)) (fun i x σ H2 H3 hi h y => ?_) (fun σ H2 h => ?_)⟩
    · obtain ⟨⟨o, rfl⟩, s2⟩ := h
      obtain ⟨rfl, hx⟩ := y
      obtain ⟨r, row, rfl, hr1, hr2, hr3⟩ := (hrs1.same s2).row hx
      have hlen := hrow row (List.mem_of_getElem? hr2)
      refine ⟨_, rfl, _, rfl, r, row, rfl, hr3, by omega, by omega, fun H4 s4 => ⟨true, rfl, iteF ?_⟩⟩
      have h0 : 0 < TT.length := by have := (List.getElem?_eq_some_iff.mp hr2).1; omega
      obtain ⟨r0, h01, h02⟩ := ((hrs1.same s2).same s4).at (List.getElem?_eq_getElem h0)
      have hlen0 := hrow _ (List.getElem_mem h0)
      refine ⟨_, rfl, r, _, rfl, .inl (SqL.of (s4 _ _ hr3)), _, rfl, t, _, 0, .ref r0, rfl, rfl, SqL.of (s4 _ _ (s2 _ _ ht1)), atI_nat (by rw [List.getElem?_map, h01]; rfl), r0, _, rfl, .inl (SqL.of h02), rfl, _, rfl, ?_⟩
      rw [show decide (V.int ((row.map iv).length : Nat) = V.int ((TT[0].map iv).length : Nat)) = true from decide_eq_true (by rw [List.length_map, List.length_map, hlen, hlen0])]
      exact iteF ⟨⟨_, rfl⟩, s2.trans s4⟩
    · obtain ⟨⟨o, rfl⟩, s2⟩ := h
      refine ⟨_, rfl, t, rfl, ⟨_, SqL.of (s2 _ _ ht1)⟩, fun D hD => lc_refs (walk_list (xs := rs.map V.ref)) (fun i => .tup ((TT.getD i []).map iv)) hD (by rw [List.length_map, hrs.1, hl]; exact Nat.le_trans hk (by decide)) (fun H3 s3 => SqL.of (s3 _ _ (s2 _ _ ht1))) (fun i x H3 H' k hi s3 hDl y kt => ?_) (fun H3 ts s3 hD3 hn hts => ?_)⟩
      · obtain ⟨rfl, hx⟩ := y
        obtain ⟨r, row, rfl, hr1, hr2, hr3⟩ := ((hrs1.same s2).same s3).row hx
        refine ⟨rfl, _, rfl, r, _, rfl, .inl ⟨SqL.of hr3, fun l hl => kt _ l (same_new (Same.refl _) hl) ?_ ?_⟩⟩
        · rw [upd_same, getD_of hr2]
        · obtain ⟨xs, hx⟩ := hDl
          exact fun e => by rw [e, hx] at hl; cases hl
      · refine ⟨D, _, rfl, .inl ⟨SqL.of hD3, fun l hl2 => k _ l (same_new ((s1.trans s2).trans s3) (Same.free ((s1.trans s2).trans s3) hl2)) ⟨ts, upd_same, ?_, fun j r row a b => ?_⟩⟩⟩
        · rw [hn, List.length_map, hrs.1]
        · have := hts j r a
          rw [getD_of b] at this
          rw [upd_ne (ne_free this hl2)]
          exact this
end
end Cw

/-! ## CwF -/
namespace Cw
open PySem PySem.Spec PyProof.Rows L2 CwR
/-- the pairs of kinds by their places -/
def prsOf (ks : List Nat) (qs : List (Nat × Nat)) : List (Nat × Nat) := qs.map fun q => (ks.idxOf q.1, ks.idxOf q.2)
section
variable {P : Program} {w : World} {K : PySem.W.Frag} {mg : Str → Option Value} {base : Heap}
def spNeedEntries (C : Addr) : Sp := fun vs H Q _ => ∃ (p t : Addr) (ks : List Nat) (qs : List (Nat × Nat)) (T : Tab) (m : Nat), vs = [.ref p, .ref t, .bl true] ∧ PlanAt C H p ks qs ∧ TabAt H t T ∧ T.length = ks.length ∧ Good T m ∧ ∀ H', Same H H' → Q .non H'
theorem ok_need_entries (T : TF K mg) : FnOk P w K mg base CX0 1 T.f_need_entries T.d_need_entries ["plan", "rows", "turning"] (spNeedEntries T.P) := by
  refine T.F_need_entries.ok sc_need_entries (fun vs H Q E h => ?_) (fun cdv A outer s H vs Q E hr h => ?_)
  · obtain ⟨_, _, _, _, _, _, rfl, _⟩ := h
    rfl
  · obtain ⟨p, t, ks, qs, TT, m, rfl, hp, ⟨rs, ht, hrs⟩, hl, g, k⟩ := h
    have nd := sc_need_entries.nd
    refine ⟨_, (pss_one (ps_for PassesOwn.never rfl (pi_zipST rfl T.z_zip (pa_cons (pe_fld (pv 0) rfl) (pa_cons (pv 1) (pa_nil)))) (pg_tup (by rfl) (pgs_cons (pg_name (i := 3) nd rfl (Or.inl rfl)) (pgs_cons (pg_name (i := 4) nd rfl (Or.inl rfl)) (pgs_nil)))) (pss_one (ps_for PassesOwn.never rfl (pi_enumT rfl T.z_enumerate (pa_cons (pv 4) (pa_nil))) (pg_tup (by rfl) (pgs_cons (pg_name (i := 5) nd rfl (Or.inl rfl)) (pgs_cons (pg_name (i := 6) nd rfl (Or.inl rfl)) (pgs_nil)))) (pss_one (ps_if (PW.pt (pw_or (pt_not (pt_chain op_le op_lt pe_int (pv 6) (pe_callB call_len_seq (by rfl) T.z_len PySem.boot_len (pa_cons (pv 4) (pa_nil))))) (pw_or1 (PW.pt (pw_and (pt_val (pv 2)) (pw_and1 (pt_cmpR op_ne (pe_ix ix_tup (pv 4) (pv 6) (fun _ _ => rfl)) (pv 5) (nomark _)))))))) (pss_one ps_never) pss_nil)))))), ?_⟩
    obtain ⟨_, _, dx, pr, d, e1, e2⟩ := hp
    refine ⟨_, rfl, p, T.P, dx, _, _, rfl, e1, T.clP, T.noP_kinds, rfl, _, rfl, txt ks, t, _, rfl, SqT.of ht, by rw [txt_size, List.length_map, hrs.1, hl], ?_⟩
    refine for_it walk_itp (fun i σ H2 => (∃ a b c d, σ = [some (.ref p), some (.ref t), some (.bl true), a, b, c, d]) ∧ Same H H2) ⟨⟨none, none, none, none, rfl⟩, Same.refl _⟩ (fun i σ H2 _ h => SqT.of (h.2 _ _ ht)) (fun i x σ H2 H3 hi h y => ?_) (fun σ H2 h => k _ h.2)
    obtain ⟨⟨a, b, c, d, rfl⟩, s2⟩ := h
    obtain ⟨Tp, x1, x2, rfl, hTp, rfl, ex1, ex2⟩ := y
    obtain ⟨r, row, rfl, hr1, hr2, hr3⟩ := (hrs.same s2).row ex2
    have hm := List.mem_of_getElem? hr2
    have hrow := g.len row hm
    refine ⟨Tp, _, rfl, SqT.of upd_same, rfl, _, _, rfl, _, _, rfl, rfl, ?_⟩
    have s3 : Same H (upd H2 Tp (.tup [x1, .ref r])) := same_new s2 (Same.free s2 hTp)
    have hr3' : upd H2 Tp (.tup [x1, .ref r]) r = some (.tup (row.map iv)) := by rw [upd_ne (ne_free hr3 hTp)]; exact hr3
    generalize upd H2 Tp (.tup [x1, .ref r]) = H3 at s3 hr3' ⊢
    refine ⟨_, rfl, r, _, rfl, SqT.of hr3', ?_⟩
    refine for_it walk_itp (fun i σ H4 => (∃ c d, σ = [some (.ref p), some (.ref t), some (.bl true), some x1, some (.ref r), c, d]) ∧ Same H3 H4) ⟨⟨_, _, rfl⟩, Same.refl _⟩ (fun i σ H2 _ h => SqT.of (h.2 _ _ hr3')) (fun j x σ H4 H5 hj h y => ?_) (fun σ H4 h => ?_)
    · obtain ⟨⟨c, d, rfl⟩, s4⟩ := h
      obtain ⟨Tq, y1, y2, rfl, hTq, rfl, ey1, ey2⟩ := y
      cases ey1
      obtain ⟨hj2, rfl⟩ := iv_get ey2
      have hjm : j < m := by omega
      have he := g.ent row hm j hjm
      have hv := g.inv row hm j hjm
      refine ⟨Tq, _, rfl, SqT.of upd_same, rfl, _, _, rfl, _, _, rfl, rfl, ?_⟩
      have s5 : Same H3 (upd H4 Tq (.tup [.int (j : Nat), iv (row.getD j 0)])) := same_new s4 (Same.free s4 hTq)
      have hr5 := s5 _ _ hr3'
      refine ⟨_, rfl, _, _, rfl, rfl, _, rfl, ?_⟩
      rw [show decide ((0 : Int) ≤ ((row.getD j 0 : Nat) : Int)) = true from decide_eq_true (by omega)]
      refine iteT ⟨_, rfl, r, _, rfl, .inr (SqT.of hr5), _, _, rfl, rfl, _, rfl, ?_⟩
      rw [show decide (((row.getD j 0 : Nat) : Int) < (((row.map iv).length : Nat) : Int)) = true from decide_eq_true (by rw [List.length_map, hrow]; omega)]
      refine iteF ⟨_, rfl, true, rfl, iteT ⟨_, rfl, _, rfl, r, _, _, _, rfl, rfl, SqT.of hr5, iv_at (by omega), _, rfl, rfl, _, rfl, ?_⟩⟩
      rw [hv, show (!decide (iv j = V.int (j : Nat))) = false from by simp]
      exact iteF ⟨⟨_, _, rfl⟩, s5⟩
    · obtain ⟨⟨c, d, rfl⟩, s4⟩ := h
      exact ⟨⟨_, _, _, _, rfl⟩, s3.trans s4⟩
def spNeedExchanged (C : Addr) : Sp := fun vs H Q _ => ∃ (p t : Addr) (ks : List Nat) (qs : List (Nat × Nat)) (T : Tab) (m : Nat), vs = [.ref p, .ref t] ∧ PlanAt C H p ks qs ∧ TabAt H t T ∧ T.length = ks.length ∧ 0 < T.length ∧ ks.length ≤ 26 ∧ m ≤ 100000 ∧ Good T m ∧ Exch (prsOf ks qs) T m ∧ Q .non H
theorem ok_need_exchanged (T : TF K mg) : FnOk P w K mg base CX0 1 T.f_need_exchanged T.d_need_exchanged ["plan", "rows"] (spNeedExchanged T.P) := by
  refine T.F_need_exchanged.ok sc_need_exchanged (fun vs H Q E h => ?_) (fun cdv A outer s H vs Q E hr h => ?_)
  · obtain ⟨_, _, _, _, _, _, rfl, _⟩ := h
    rfl
  · obtain ⟨p, t, ks, qs, TT, m, rfl, hp, ⟨rs, ht, hrs⟩, hl, hpos, hkl, hmb, g, hx, k⟩ := h
    have nd := sc_need_exchanged.nd
    refine ⟨_, (pss_cons (ps_set (i := 2) nd rfl (Or.inl rfl) (pe_ifExp (pt_cmpR op_gt (pe_callB call_len_seq (by rfl) T.z_len PySem.boot_len (pa_cons (pv 1) (pa_nil))) pe_int (nomark _)) (pe_callB call_len_seq (by rfl) T.z_len PySem.boot_len (pa_cons (pe_ix ix_tup (pv 1) pe_int (fun _ _ => rfl)) (pa_nil))) pe_int))
      (pss_one (ps_for PassesOwn.never rfl (pi_range1 rfl T.z_range (pa_cons (pv 2) (pa_nil))) (pg_name (i := 3) nd rfl (Or.inl rfl)) (pss_one (ps_for PassesOwn.never rfl (pi_tup (pe_fld (pv 0) rfl)) (pg_name (i := 4) nd rfl (Or.inl rfl)) (pss_cons (ps_par (i := 5) (j := 6) rfl nd rfl rfl (by decide) rfl rfl (pa_cons (pe_ix ix_tup (pv 1) (pe_m1 PySem.F.slot_str_find PySem.F.type_str_find mt_find (pe_fld (pv 0) rfl) (pe_ix ix_str (pv 4) pe_int (fun _ _ => rfl))) (fun _ _ => rfl)) (pa_cons (pe_ix ix_tup (pv 1) (pe_m1 PySem.F.slot_str_find PySem.F.type_str_find mt_find (pe_fld (pv 0) rfl) (pe_ix ix_str (pv 4) pe_int (fun _ _ => rfl))) (fun _ _ => rfl)) (pa_nil))) (by rfl))
      (pss_one (ps_if (pt_cmpR op_ne (pe_ix ix_tup (pv 6) (pe_ix ix_tup (pv 5) (pv 3) (fun _ _ => rfl)) (fun _ _ => rfl)) (pe_ix ix_tup (pv 5) (pe_ix ix_tup (pv 6) (pv 3) (fun _ _ => rfl)) (fun _ _ => rfl)) (nomark _)) (pss_one ps_never) pss_nil)))))))), ?_⟩
    obtain ⟨hks, _, dx, pr, d, e1, e2⟩ := hp
    obtain ⟨r0, h01, h02⟩ := hrs.at (List.getElem?_eq_getElem hpos)
    have hlen0 := g.len _ (List.getElem_mem hpos)
    refine ⟨_, rfl, t, _, rfl, .inr (SqT.of ht), _, _, rfl, rfl, _, rfl, ?_⟩
    rw [show decide ((0 : Int) < (((rs.map V.ref).length : Nat) : Int)) = true from decide_eq_true (by rw [List.length_map, hrs.1]; omega)]
    refine iteT ⟨_, rfl, t, _, 0, .ref r0, rfl, rfl, SqT.of ht, atI_nat (by rw [List.getElem?_map, h01]; rfl), r0, _, rfl, .inr (SqT.of h02), ?_⟩
    rw [List.length_map, hlen0]
    refine ⟨_, rfl, m, rfl, by omega, by omega, ?_⟩
    refine for_it (walk_range (lo := 0) (n := m)) (fun i σ H2 => (∃ a b c d, σ = [some (.ref p), some (.ref t), some (iv m), a, b, c, d]) ∧ H2 = H) ⟨⟨_, _, _, _, rfl⟩, rfl⟩ (fun _ _ _ _ _ => True.intro) (fun i x σ H2 H3 hi h y => ?_) (fun σ H2 h => by rw [h.2]; exact k)
    obtain ⟨⟨a, b, c, d, rfl⟩, rfl⟩ := h
    obtain ⟨rfl, rfl⟩ := y
    refine ⟨_, rfl, p, T.P, dx, _, _, rfl, e1, T.clP, T.noP_pairs, rfl, pr, rfl, ⟨_, SqT.of e2⟩, ?_⟩
    refine for_it (walk_tup (xs := qs.map pairV)) (fun j σ H4 => (∃ b c d, σ = [some (.ref p), some (.ref t), some (iv m), some (.int (0 + (i : Nat))), b, c, d]) ∧ H4 = H3) ⟨⟨_, _, _, rfl⟩, rfl⟩ (fun i σ H2 _ h => by rw [h.2]; exact SqT.of e2) (fun j x σ H4 H5 hj h y => ?_) (fun σ H4 h => ?_)
    · obtain ⟨⟨b, c, d, rfl⟩, rfl⟩ := h
      obtain ⟨rfl, hx1⟩ := y
      rw [List.getElem?_map] at hx1
      cases hq : qs[j]? with
      | none => rw [hq] at hx1; cases hx1
      | some q =>
      rw [hq] at hx1
      cases hx1
      have hqm := List.mem_of_getElem? hq
      obtain ⟨k1, k2⟩ := hks q hqm
      have l1 : ks.idxOf q.1 < TT.length := by rw [hl]; exact List.idxOf_lt_length_of_mem k1
      have l2 : ks.idxOf q.2 < TT.length := by rw [hl]; exact List.idxOf_lt_length_of_mem k2
      obtain ⟨ra, a1, a2⟩ := hrs.at (List.getElem?_eq_getElem l1)
      obtain ⟨rb, b1, b2⟩ := hrs.at (List.getElem?_eq_getElem l2)
      have e0 : (0 : Int) + (i : Nat) = (i : Nat) := by omega
      have ga := g.ent _ (List.getElem_mem l1) i hi
      have gb := g.ent _ (List.getElem_mem l2) i hi
      have la := g.len _ (List.getElem_mem l1)
      have lb := g.len _ (List.getElem_mem l2)
      have ex := hx (ks.idxOf q.1, ks.idxOf q.2) (List.mem_map.mpr ⟨q, hqm, rfl⟩) i hi
      simp only [step_some (List.getElem?_eq_getElem l1), step_some (List.getElem?_eq_getElem l2)] at ex
      refine ⟨_, rfl, _, rfl, p, T.P, dx, _, _, rfl, e1, T.clP, T.noP_kinds, rfl, ⟨_, rfl⟩, _, rfl, txt [q.1, q.2], 0, q.1, rfl, rfl, by show 2 ≤ sizeLine; decide, rfl, txt ks, sgn q.1, rfl, rfl, t, _, _, .ref ra, rfl, rfl, SqT.of ht, ?_, ?_⟩
      · rw [find_sgn k1]
        exact atI_nat (by rw [List.getElem?_map, a1]; rfl)
      refine ⟨_, rfl, _, rfl, p, T.P, dx, _, _, rfl, e1, T.clP, T.noP_kinds, rfl, ⟨_, rfl⟩, _, rfl, txt [q.1, q.2], 1, q.2, rfl, rfl, by show 2 ≤ sizeLine; decide, rfl, txt ks, sgn q.2, rfl, rfl, t, _, _, .ref rb, rfl, rfl, SqT.of ht, ?_, ?_⟩
      · rw [find_sgn k2]
        exact atI_nat (by rw [List.getElem?_map, b1]; rfl)
      refine ⟨_, _, rfl, ?_⟩
      refine ⟨_, rfl, _, rfl, _, rfl, ra, _, _, _, rfl, rfl, SqT.of a2, by rw [e0]; exact iv_at (by omega), rb, _, _, _, rfl, rfl, SqT.of b2, iv_at (by omega), _, rfl, _, rfl, _, rfl, rb, _, _, _, rfl, rfl, SqT.of b2, by rw [e0]; exact iv_at (by omega), ra, _, _, _, rfl, rfl, SqT.of a2, iv_at (by omega), rfl, _, rfl, ?_⟩
      rw [ex]
      rw [show ∀ z : Nat, (!decide (iv z = iv z)) = false from fun z => by simp]
      exact iteF ⟨⟨_, _, _, rfl⟩, rfl⟩
    · obtain ⟨⟨b, c, d, rfl⟩, rfl⟩ := h
      exact ⟨⟨_, _, _, _, rfl⟩, rfl⟩
end
end Cw

/-! ## CwG -/
namespace Cw
open PySem PySem.Spec PyProof.Rows L2 CwR
/-- what a dict of the seen holds -/
def SeenAt (H : Hp) (d : Addr) (L : List Nat) : Prop := ∃ kvs : List (Key × V), H d = some (.dK kvs) ∧ kvs.length = L.length ∧ ∀ p : Nat, (valV kvs (.inl (p : Int))).isSome = decide (p ∈ L)
theorem bfs_succ_at {α : Type} [DecidableEq α] {succs : α → List α} {x0 x : α} {i : Nat} (h : (bfs succs x0 i)[i]? = some x) : bfs succs x0 (i + 1) = addAll (bfs succs x0 i) (succs x) := bstep_some h
theorem valV_nil (k : Key) : valV ([] : List (Key × V)) k = none := rfl
section
variable {P : Program} {w : World} {K : PySem.W.Frag} {mg : Str → Option Value} {base : Heap}
def spFoundPlaces : Sp := fun vs H Q _ => ∃ (t : Addr) (T : Tab) (m : Nat), vs = [.ref t, .int 0] ∧ TabAt H t T ∧ Good T m ∧ m ≤ 100000 ∧ ∀ H' f, Same H H' → H' f = some (.lst ((gfound (sys T) 0 m).map iv)) → Q (.ref f) H'
theorem gsucc_sys (T : Tab) (x : Nat) : gsucc (sys T) x = T.map fun row => row.getD x 0 := by
  unfold gsucc sys
  rw [List.map_map]
  rfl
theorem ok_found_places (T : TF K mg) : FnOk P w K mg base CX0 1 T.f_found_places T.d_found_places ["rows", "first"] (spFoundPlaces) := by
  refine T.F_found_places.ok sc_found_places (fun vs H Q E h => ?_) (fun cdv A outer s H vs Q E hr h => ?_)
  · obtain ⟨_, _, _, rfl, _⟩ := h
    rfl
  · obtain ⟨t, TT, m, rfl, ⟨rs, ht, hrs⟩, g, hmb, k⟩ := h
    have nd := sc_found_places.nd
    refine ⟨_, (pss_cons (ps_set (i := 2) nd rfl (Or.inl rfl) (pe_lst (pa_cons (pv 1) (pa_nil))))
      (pss_cons (ps_set (i := 3) nd rfl (Or.inl rfl) (pe_disp (pps_cons (pv 1) pe_bl pps_nil) rfl rfl (by simp) (by decide)))
      (pss_cons (ps_set (i := 4) nd rfl (Or.inl rfl) pe_int)
      (pss_cons (ps_while PassesOwn.never (pt_cmpR op_lt (pv 4) (pe_callB call_len_seq (by rfl) T.z_len PySem.boot_len (pa_cons (pv 2) (pa_nil))) (nomark _)) (pss_cons (ps_for PassesOwn.never rfl (pi_tup (pv 0)) (pg_name (i := 5) nd rfl (Or.inl rfl)) (pss_cons (ps_set (i := 6) nd rfl (Or.inl rfl) (pe_ix ix_tup (pv 5) (pe_ix ix_list (pv 2) (pv 4) (fun _ _ => rfl)) (fun _ _ => rfl)))
      (pss_one (ps_if (pt_cmp (pc_dnotin (hu_of hr) (pv 6) (pv 3))) (pss_cons (ps_dput (hu_of hr) (pv 3) (pv 6) pe_bl rfl)
      (pss_one (ps_expr (pe_bm PySem.F.plainAttrs_list PySem.F.slot_list_append PySem.F.type_list_append mt_append (pv 2) (pa_cons (pv 6) (pa_nil)))))) pss_nil))))
      (pss_one (ps_aug (i := 4) nd rfl (Or.inl rfl) pe_int ip_add))))
      (pss_one (ps_ret (pv 2))))))), ?_⟩
    have big : sizeLine ≥ 1000000 := by decide
    refine ⟨_, rfl, by show 1 ≤ sizeLine; decide, fun f hf => ?_⟩
    intro d hd
    have hfd : f ≠ d := ne_free (upd_same (H := H) (a := f)) hd
    have hd0 : H d = none := Same.free (same_new (Same.refl H) hf) hd
    refine ⟨_, rfl, ?_⟩
    refine ⟨upd_same, [(.inl 0, .bl true)], rfl, by decide, ?_⟩
    have big1 : ∀ i, (gfound (sys TT) 0 i).length ≤ m := fun i => gfound_len g.enough i
    let St : Nat → L2.St → Hp → Prop := fun i σ H1 => (∃ a b, σ = [some (.ref t), some (.int 0), some (.ref f), some (.ref d), some (iv i), a, b]) ∧ Same H H1 ∧ H1 f = some (.lst ((gfound (sys TT) 0 i).map iv)) ∧ SeenAt H1 d (gfound (sys TT) 0 i) ∧ ∀ j, j < i → j < (gfound (sys TT) 0 j).length
    refine ⟨fun μ σ H1 => ∃ i, μ = m - i ∧ St i σ H1, ⟨m, 0, rfl, ⟨_, _, rfl⟩, same_new (same_new (same_new (Same.refl H) hf) hd0) hd0, ?_, ?_, fun j hj => absurd hj (Nat.not_lt_zero _)⟩, ?_⟩
    · rw [upd_ne hfd, upd_ne hfd, upd_same]
      rfl
    · refine ⟨_, upd_same, rfl, fun p => ?_⟩
      show (valV (putK [] (Sum.inl 0 : Key) (.bl true)) (Sum.inl (p : Int))).isSome = decide (p ∈ [0])
      rw [valV_put]
      by_cases e : p = 0
      · subst e; rfl
      · rw [if_neg (fun h => by injection h with h; omega)]
        simp [e, valV_nil]
    rintro μ σ H1 ⟨i, rfl, ⟨a, b, rfl⟩, s1, hL, hS, hlt⟩
    refine ⟨_, rfl, _, rfl, f, _, rfl, .inl (SqL.of hL), _, _, rfl, rfl, _, rfl, ?_⟩
    rw [List.length_map]
    by_cases hi : i < (gfound (sys TT) 0 i).length
    · rw [show decide (((i : Nat) : Int) < (((gfound (sys TT) 0 i).length : Nat) : Int)) = true from decide_eq_true (by omega)]
      refine iteT (B := _) ?_
      have him : i < m := Nat.lt_of_lt_of_le hi (big1 i)
      refine ⟨St (i + 1), fun σ' H' h => ⟨m - (i + 1), by omega, i + 1, rfl, h⟩, ?_⟩
      obtain ⟨x, hx⟩ : ∃ x, (gfound (sys TT) 0 i)[i]? = some x := ⟨_, List.getElem?_eq_getElem hi⟩
      have hxm : x < m := by
        obtain ⟨w, rfl⟩ := gfound_reach i x (List.mem_of_getElem? hx)
        exact g.walk_lt w
      have enxt : gfound (sys TT) 0 (i + 1) = addAll (gfound (sys TT) 0 i) (gsucc (sys TT) x) := bfs_succ_at hx
      generalize hLdef : gfound (sys TT) 0 i = L at hL hS hi hx enxt
      have hLm : L.length ≤ m := by rw [← hLdef]; exact big1 i
      have htot : (addAll L (gsucc (sys TT) x)).length ≤ m := by rw [← enxt]; exact big1 (i + 1)
      refine ⟨_, rfl, t, rfl, ⟨_, SqT.of (s1 _ _ ht)⟩, for_it (walk_tup (xs := rs.map V.ref)) (fun k σ H2 => (∃ a b, σ = [some (.ref t), some (.int 0), some (.ref f), some (.ref d), some (iv i), a, b]) ∧ Same H H2 ∧ H2 f = some (.lst ((addAll L ((gsucc (sys TT) x).take k)).map iv)) ∧ SeenAt H2 d (addAll L ((gsucc (sys TT) x).take k)))
        ⟨⟨a, b, rfl⟩, s1, hL, hS⟩ (fun _ σ H2 _ h => SqT.of (h.2.1 _ _ ht)) (fun k y σ H2 H3 hk h hy => ?_) (fun σ H2 h => ?_)⟩
      · obtain ⟨⟨a, b, rfl⟩, s2, hL2, hS2⟩ := h
        obtain ⟨rfl, hyx⟩ := hy
        obtain ⟨r, row, rfl, hr1, hr2, hr3⟩ := (hrs.same s2).row hyx
        have hrow := g.len row (List.mem_of_getElem? hr2)
        have etk : (gsucc (sys TT) x).take (k + 1) = (gsucc (sys TT) x).take k ++ [row.getD x 0] := by
          rw [List.take_add_one, gsucc_sys, List.getElem?_map, hr2]
          rfl
        generalize hL'def : addAll L ((gsucc (sys TT) x).take k) = L' at hL2 hS2
        have enx : addAll L ((gsucc (sys TT) x).take (k + 1)) = if row.getD x 0 ∈ L' then L' else L' ++ [row.getD x 0] := by rw [etk, addAll_snoc, hL'def]
        have hx' : L'[i]? = some x := by rw [← hL'def]; exact prefix_get (addAll_prefix _ _) hx
        have hlen' : L'.length ≤ m := by
          refine Nat.le_trans ?_ htot
          have hpre : L' <+: addAll L (gsucc (sys TT) x) := by
            rw [← hL'def]
            conv => rhs; rw [← List.take_append_drop k (gsucc (sys TT) x), addAll_append]
            exact addAll_prefix _ _
          exact hpre.length_le
        obtain ⟨kvs, hk1, hk2, hk3⟩ := hS2
        refine ⟨_, rfl, _, rfl, _, rfl, f, _, _, iv x, rfl, rfl, SqL.of hL2, atI_nat (by rw [List.getElem?_map, hx']; rfl), r, _, _, _, rfl, rfl, SqT.of hr3, iv_at (by omega), ?_⟩
        refine ⟨_, rfl, _, rfl, d, _, rfl, DGet.k (k := Sum.inl ((row.getD x 0 : Nat) : Int)) hk1, _, rfl, ?_⟩
        rw [hk3, enx]
        by_cases hin : row.getD x 0 ∈ L'
        · rw [decide_eq_true hin, if_pos hin]
          exact iteF ⟨⟨_, _, rfl⟩, s2, hL2, kvs, hk1, hk2, hk3⟩
        · rw [decide_eq_false hin, if_neg hin]
          refine iteT (B := _) ?_
          have hvn : valV kvs (.inl ((row.getD x 0 : Nat) : Int)) = none := by
            have := hk3 (row.getD x 0)
            rw [decide_eq_false hin] at this
            cases e : valV kvs (.inl ((row.getD x 0 : Nat) : Int)) with
            | none => rfl
            | some v => rw [e] at this; cases this
          refine ⟨_, rfl, _, rfl, d, _, rfl, DPut.k (k := Sum.inl ((row.getD x 0 : Nat) : Int)) hk1 (by omega), ?_⟩
          have hL3 : upd H3 d (.dK (putK kvs (.inl ((row.getD x 0 : Nat) : Int)) (.bl true))) f = some (.lst (L'.map iv)) := by rw [upd_ne hfd]; exact hL2
          refine ⟨_, rfl, .inl ⟨rfl, _, SqL.of hL3⟩, _, rfl, f, _, _, rfl, rfl, hL3, by rw [List.length_map]; omega, ⟨_, _, rfl⟩, same_new (same_new s2 hd0) hf, ?_, ?_⟩
          · rw [upd_same, List.map_append]
            rfl
          · refine ⟨putK kvs (.inl ((row.getD x 0 : Nat) : Int)) (.bl true), by rw [upd_ne (Ne.symm hfd), upd_same], ?_, fun p => ?_⟩
            · rw [putK_new _ hvn, List.length_append, List.length_append, hk2]
              rfl
            · rw [valV_put]
              by_cases e : p = row.getD x 0
              · subst e
                rw [if_pos rfl]
                simp
              · rw [if_neg (fun h => by injection h with h; omega), hk3]
                exact decide_eq_decide.mpr (by rw [List.mem_append, List.mem_singleton]; exact ⟨Or.inl, fun h => h.resolve_right e⟩)
      · obtain ⟨⟨a, b, rfl⟩, s2, hL2, hS2⟩ := h
        rw [List.length_map, List.take_of_length_le (by rw [gsucc_sys, List.length_map, hrs.1]; exact Nat.le_refl _)] at hL2 hS2
        refine ⟨_, rfl, _, _, rfl, rfl, ⟨_, _, rfl⟩, s2, ?_, ?_, fun j hj => ?_⟩
        · rw [enxt]; exact hL2
        · rw [enxt]; exact hS2
        · by_cases e : j = i
          · subst e; rw [hLdef]; exact hi
          · exact hlt j (by omega)
    · rw [show decide (((i : Nat) : Int) < (((gfound (sys TT) 0 i).length : Nat) : Int)) = false from decide_eq_false (by omega)]
      refine iteF (A := _) ?_
      rw [gfound_at g.enough (by omega) hlt] at hL
      exact ⟨_, rfl, k _ f s1 hL⟩
end
end Cw

/-! ## CwH -/
namespace Cw
open PySem PySem.Spec PyProof.Rows L2 CwR
/-- a dict of places by their numbers -/
def NumAt (H : Hp) (d : Addr) (L : List Nat) : Prop := ∃ kvs : List (Key × V), H d = some (.dK kvs) ∧ ∀ p : Nat, p ∈ L → valV kvs (.inl (p : Int)) = some (iv (L.idxOf p))
/-- an instance of Closed -/
def floFs (p t o : Addr) : List (Str × V) := [("plan", .ref p), ("tables", .ref t), ("own_places", .ref o)]
def FlAt (C : Addr) (H : Hp) (a p : Addr) (T : Tab) (m : Nat) : Prop := ∃ dx t o, H a = some (.ins C dx (floFs p t o)) ∧ TabAt H t T ∧ H o = some (.tup ((List.range m).map iv))
theorem FlAt.same {C : Addr} {H H' : Hp} {a p : Addr} {T : Tab} {m : Nat} (h : FlAt C H a p T m) (s : Same H H') : FlAt C H' a p T m := by
  obtain ⟨dx, t, o, a, b, c⟩ := h
  exact ⟨dx, t, o, s _ _ a, b.same s, s _ _ c⟩
theorem rgV_iv (m : Nat) : rgV 0 (m : Int) = (List.range m).map iv := by
  unfold rgV
  have : ((m : Int) - 0).toNat = m := by omega
  rw [this]
  apply List.map_congr_left
  intro i _
  show V.int (0 + (i : Int)) = V.int i
  rw [Int.zero_add]
section
variable {P : Program} {w : World} {K : PySem.W.Frag} {mg : Str → Option Value} {base : Heap}
def spNumberedRows : Sp := fun vs H Q _ => ∃ (t : Addr) (T : Tab) (m : Nat), vs = [.ref t, .int 0] ∧ TabAt H t T ∧ Good T m ∧ T ≠ [] ∧ T.length ≤ 26 ∧ m ≤ 100000 ∧ ∀ H' r, Same H H' → TabAt H' r (num T) → Q (.ref r) H'
theorem ok_numbered_rows (T : TF K mg) : FnOk P w K mg base CX0 2 T.f_numbered_rows T.d_numbered_rows ["rows", "first"] (spNumberedRows) := by
  refine T.F_numbered_rows.ok sc_numbered_rows (fun vs H Q E h => ?_) (fun cdv A outer s H vs Q E hr h => ?_)
  · obtain ⟨_, _, _, rfl, _⟩ := h
    rfl
  · obtain ⟨t, TT, m, rfl, hT, g, hne, hl26, hmb, k⟩ := h
    have nd := sc_numbered_rows.nd
    refine ⟨_, (pss_cons (ps_set (i := 2) nd rfl (Or.inr rfl) (pe_call (ok_found_places T) (hr.mono (by decide)) rfl T.m_found_places T.F_found_places.kp T.b_found_places .nil pass0 (pa_cons (pv 0) (pa_cons (pv 1) (pa_nil)))))
      (pss_cons (ps_set (i := 3) nd rfl (Or.inr rfl) (pe_dg (o := .dK []) (.inl rfl) hr.units0 (own := [("at", 5), ("place", 4)]) (g := (gTup K 2 (gCons (gName 5) (gCons (gName 4) gNil)))) (tt := tYes) rfl nd (pi_enum rfl T.z_enumerate (pa_cons (pv 2) (pa_nil))) (blkOk_by (own := [("at", 5), ("place", 4)]) (N := n_numbered_rows) (sc := defScope s_numbered_rows) (by decide +kernel)) (fun _ _ _ _ _ => (pg_tup (by rfl) (pgs_cons (pg_name (i := 5) nd rfl (by first | exact Or.inl rfl | exact Or.inr rfl)) (pgs_cons (pg_name (i := 4) nd rfl (by first | exact Or.inl rfl | exact Or.inr rfl)) (pgs_nil))))) (fun _ _ _ _ _ => pts_nil) (fun _ _ _ _ _ => (pv 4)) (fun _ _ _ _ _ => (pv 5))))
      (pss_one (ps_ret (pe_callTy call_tuple_of (by rfl) T.z_tuple (by decide +kernel) (pa_cons (pe_lc (own := [("row", 6)]) (g := (gName 6)) (tt := tYes) rfl nd (pi_tup (pv 0)) (blkOk_by (own := [("row", 6)]) (N := n_numbered_rows) (sc := defScope s_numbered_rows) (by decide +kernel)) (fun _ _ _ _ _ => (pg_name (i := 6) nd rfl (by first | exact Or.inl rfl | exact Or.inr rfl))) (fun _ _ _ _ _ => pts_nil) (fun _ _ _ _ _ => (pe_callTy (call_tuple_ofK (K := K)) (by rfl) T.z_tuple (by decide +kernel) (pa_cons (pe_lc (own := [("place", 4)]) (g := (gName 4)) (tt := tYes) rfl nd (pi_listK (K := K) (pv 2)) (blkOk_by (own := [("place", 4)]) (N := n_numbered_rows) (sc := { kind := .function, names := [(".0", .local), ("row", .cell), ("tuple", .globalImplicit), ("found", .cell), ("numbers", .cell)], isGenerator := false, isCoroutine := false }) (by decide +kernel)) (fun _ _ _ _ _ => (pg_name (i := 4) nd rfl (by first | exact Or.inl rfl | exact Or.inr rfl))) (fun _ _ _ _ _ => pts_nil) (fun _ _ _ _ _ => (pe_dget (hu_of hr) (pv 3) (pe_ix (ix_tupK (K := K)) (pv 6) (pv 4) (fun _ _ => rfl)) (fun _ _ => rfl)))) (pa_nil))))) (pa_nil))))))), ?_⟩
    have big : sizeLine ≥ 1000000 := by decide
    refine ⟨_, rfl, _, rfl, t, TT, m, rfl, hT, g, hmb, fun H1 f s1 hL => ?_⟩
    have hnum : num TT = (sys TT).map fun f => (gfound (sys TT) 0 m).map fun p => (gfound (sys TT) 0 m).idxOf (f p) := by unfold num; rw [g.places hne]; rfl
    have hLm : (gfound (sys TT) 0 m).length ≤ m := gfound_len g.enough m
    have hnd : (gfound (sys TT) 0 m).Nodup := gfound_nodup m
    have hcl := gfound_closed g.enough
    have hlt : ∀ p ∈ gfound (sys TT) 0 m, p < m := fun p hp => by
      obtain ⟨w, rfl⟩ := gfound_reach m p hp
      exact g.walk_lt w
    generalize gfound (sys TT) 0 m = L at *
    refine ⟨_, rfl, f, _, rfl, SqL.of hL, fun d hd => ?_⟩
    have hfd : f ≠ d := ne_free hL hd
    refine dg_it (walk_enum (xs := L.map iv)) (fun i H2 => Same H1 H2 ∧ ∃ kvs : List (Key × V), H2 d = some (.dK kvs) ∧ kvs.length ≤ i ∧ ∀ j p, j < i → L[j]? = some p → valV kvs (.inl (p : Int)) = some (iv j)) ⟨same_new (Same.refl _) hd, [], upd_same, by simp, fun j p h => absurd h (Nat.not_lt_zero _)⟩
      (fun i H2 _ h => SqL.of (h.1 _ _ hL)) (fun i x H2 H3 hi h y => ?_) (fun H2 h => ?_)
    · obtain ⟨s2, kvs, e1, e2, e3⟩ := h
      obtain ⟨Tp, x1, x2, rfl, hTp, rfl, ex1, ex2⟩ := y
      cases ex1
      obtain ⟨hi2, rfl⟩ := iv_get ex2
      have hLi : L[i]? = some (L.getD i 0) := by rw [List.getElem?_eq_getElem hi2]; simp [List.getD_eq_getElem?_getD, List.getElem?_eq_getElem hi2]
      have hdT : d ≠ Tp := ne_free e1 hTp
      refine ⟨Tp, _, rfl, SqT.of upd_same, rfl, _, _, rfl, _, _, rfl, rfl, rfl, _, rfl, _, rfl, _, DPut.k (k := Sum.inl ((L.getD i 0 : Nat) : Int)) (by rw [upd_ne hdT]; exact e1) (by omega), same_new (same_new s2 (Same.free s2 hTp)) hd, _, upd_same, ?_, fun j p hj hp => ?_⟩
      · have := length_putK kvs (Sum.inl ((L.getD i 0 : Nat) : Int)) (V.int (i : Nat))
        omega
      · rw [valV_put]
        by_cases e : p = L.getD i 0
        · subst e
          rw [if_pos rfl]
          have hj2 := (List.getElem?_eq_some_iff.mp hp).1
          have : j = i := by
            have h1 := (List.getElem?_eq_some_iff.mp hp).2
            have h2 := (List.getElem?_eq_some_iff.mp hLi).2
            exact (List.getElem_inj hnd).mp (h1.trans h2.symm)
          rw [this]
        · rw [if_neg (fun h => by injection h with h; omega)]
          refine e3 j p ?_ hp
          rcases Nat.lt_or_ge j i with h | h
          · exact h
          · have : j = i := by omega
            subst this
            rw [hLi] at hp
            exact absurd (Option.some.inj hp).symm e
    · obtain ⟨s2, kvs, e1, e2, e3⟩ := h
      rw [List.length_map] at e3
      have hN : ∀ H3, Same H2 H3 → ∀ p ∈ L, DGet H3 d (iv p) (some (iv (L.idxOf p))) := fun H3 s3 p hp => by
        have hlp := List.idxOf_lt_length_of_mem hp
        have := e3 (L.idxOf p) p hlp (by rw [List.getElem?_eq_getElem hlp, List.getElem_idxOf hlp])
        rw [← this]
        exact DGet.k (k := Sum.inl (p : Int)) (s3 _ _ e1)
      obtain ⟨rs, ht, hrs⟩ := (hT.same s1).same s2
      have hL2 := s2 _ _ hL
      refine ⟨_, rfl, t, rfl, ⟨_, SqT.of ht⟩, fun D hD => lc_refs (walk_tup (xs := rs.map V.ref)) (fun i => .tup (((num TT).getD i []).map iv)) hD (by rw [List.length_map, hrs.1]; omega) (fun H3 s3 => SqT.of (s3 _ _ ht)) (fun i x H3 H' kk hi s3 hDl y kt => ?_) (fun H3 ts s3 hD3 hn hts => ?_)⟩
      · obtain ⟨rfl, hx⟩ := y
        obtain ⟨r, row, rfl, hr1, hr2, hr3⟩ := (hrs.same s3).row hx
        have hrow := g.len row (List.mem_of_getElem? hr2)
        have enum : (num TT)[i]? = some (L.map fun p => L.idxOf (row.getD p 0)) := by
          rw [hnum, List.getElem?_map]
          unfold sys
          rw [List.getElem?_map, hr2]
          rfl
        refine ⟨rfl, _, rfl, f, rfl, ⟨_, SqL.of (s3 _ _ hL2)⟩, fun D2 hD2 => lc_fn (walk_list (xs := L.map iv)) (fun _ => true) (fun j => iv (L.idxOf (row.getD (L.getD j 0) 0))) hD2 (by rw [List.length_map]; omega) (fun H4 s4 => SqL.of (s4 _ _ (s3 _ _ hL2))) (fun j x H4 H5 kk2 N hj s4 y kt2 _ => ?_) (fun H4 s4 hD4 => ?_)⟩
        · obtain ⟨rfl, hx2⟩ := y
          obtain ⟨hj2, rfl⟩ := iv_get hx2
          have hmem : L.getD j 0 ∈ L := getD_mem hj2
          have hmem2 : row.getD (L.getD j 0) 0 ∈ L := hcl _ hmem _ (by rw [gsucc_sys]; exact List.mem_map.mpr ⟨row, List.mem_of_getElem? hr2, rfl⟩)
          refine ⟨rfl, _, rfl, _, rfl, _, rfl, r, _, _, _, rfl, rfl, SqT.of (s4 _ _ hr3), iv_at (by rw [hrow]; exact hlt _ hmem), d, _, rfl, hN _ (s3.trans s4) _ hmem2, kt2 rfl _ (Same.refl _)⟩
        · rw [filter_true fun _ _ => rfl, List.length_map, map_range_getD L 0 (fun p => iv (L.idxOf (row.getD p 0)))] at hD4
          refine ⟨D2, _, rfl, .inl ⟨SqL.of hD4, fun l hl => kt _ l (same_new s4 (Same.free s4 hl)) ?_ ?_⟩⟩
          · rw [upd_same, getD_of enum, List.map_map]
            rfl
          · obtain ⟨xs, hx⟩ := hDl
            exact fun e => by rw [e, s4 _ _ hx] at hl; cases hl
      · refine ⟨D, _, rfl, .inl ⟨SqL.of hD3, fun l hl2 => k _ l (same_new ((s1.trans s2).trans s3) (Same.free ((s1.trans s2).trans s3) hl2)) ⟨ts, upd_same, ?_, fun j r row a b => ?_⟩⟩⟩
        · rw [hn, List.length_map, hrs.1, hnum, List.length_map, sys_length]
        · have := hts j r a
          rw [getD_of b] at this
          rw [upd_ne (ne_free this hl2)]
          exact this
/-- Closed(plan, tables) -/
def spClosedInit (P C : Addr) : Sp := fun vs H Q _ => ∃ (a dx p t : Addr) (ks : List Nat) (qs : List (Nat × Nat)) (T : Tab) (m : Nat), vs = [.ref a, .ref p, .ref t] ∧ H a = some (.ins C dx []) ∧ PlanAt P H p ks qs ∧ LTab H t T ∧ T.length = ks.length ∧ 0 < ks.length ∧ ks.length ≤ 26 ∧ m ≤ 100000 ∧ Good T m ∧ Exch (prsOf ks qs) T m ∧
  ∀ H' n, KeepBut a H H' → FlAt C H' a p (num T) n → n = places (num T) → Q .non H'
theorem ok_closed_init (T : TF K mg) : FnOk P w K mg base CX0 4 T.f_closed_init T.d_closed_init ["self", "plan", "tables"] (spClosedInit T.P T.C) := by
  refine T.F_closed_init.ok sc_closed_init (fun vs H Q E h => ?_) (fun cdv A outer s H vs Q E hr h => ?_)
  · obtain ⟨_, _, _, _, _, _, _, _, rfl, _⟩ := h
    rfl
  · obtain ⟨a, dx, p, t, ks, qs, TT, m, rfl, ha, hp, hLT, hl, hpos, hk26, hmb, g, hx, k⟩ := h
    have nd := sc_closed_init.nd
    refine ⟨_, (pss_cons (ps_set (i := 3) nd rfl (Or.inl rfl) (pe_call (ok_table_rows T) (hr.mono (by decide)) rfl T.m_table_rows T.F_table_rows.kp T.b_table_rows .nil pass0 (pa_cons (pv 1) (pa_cons (pv 2) (pa_cons pe_non (pa_nil))))))
      (pss_cons (ps_expr (pe_call (ok_need_entries T) (hr.mono (by decide)) rfl T.m_need_entries T.F_need_entries.kp T.b_need_entries .nil pass0 (pa_cons (pv 1) (pa_cons (pv 3) (pa_cons pe_bl (pa_nil))))))
      (pss_cons (ps_expr (pe_call (ok_need_exchanged T) (hr.mono (by decide)) rfl T.m_need_exchanged T.F_need_exchanged.kp T.b_need_exchanged .nil pass0 (pa_cons (pv 1) (pa_cons (pv 3) (pa_nil)))))
      (pss_cons (ps_fld (pv 0) (pv 1) rfl)
      (pss_cons (ps_fld (pv 0) (pe_call (ok_numbered_rows T) (hr.mono (by decide)) rfl T.m_numbered_rows T.F_numbered_rows.kp T.b_numbered_rows .nil pass0 (pa_cons (pv 3) (pa_cons pe_int (pa_nil)))) rfl)
      (pss_one (ps_fld (pv 0) (pe_tupRg rfl (by rfl) T.z_tuple (prg_1 (by rfl) T.z_range (pe_ifExp (pt_cmpR op_gt (pe_callB call_len_seq (by rfl) T.z_len PySem.boot_len (pa_cons (pe_fld (pv 0) rfl) (pa_nil))) pe_int (nomark _)) (pe_callB call_len_seq (by rfl) T.z_len PySem.boot_len (pa_cons (pe_ix ix_tup (pe_fld (pv 0) rfl) pe_int (fun _ _ => rfl)) (pa_nil))) pe_int))) rfl))))))), ?_⟩
    have hne : TT ≠ [] := ne_nil_of hl hpos
    refine ⟨_, rfl, _, rfl, p, t, ks, qs, TT, m, rfl, hp, hLT, hl, hk26, g.pos, hmb, g.len, fun H1 t1 s1 hT1 => ?_⟩
    refine ⟨_, rfl, _, rfl, p, t1, ks, qs, TT, m, rfl, hp.same s1, hT1, hl, g, fun H2 s2 => ?_⟩
    have hT2 := hT1.same s2
    have hp2 := (hp.same s1).same s2
    refine ⟨_, rfl, _, rfl, p, t1, ks, qs, TT, m, rfl, hp2, hT2, hl, by omega, hk26, hmb, g, hx, ?_⟩
    have ha2 := s2 _ _ (s1 _ _ ha)
    refine ⟨_, rfl, _, rfl, a, T.C, dx, _, rfl, ha2, T.clC, T.noC_plan, by decide, ?_⟩
    have k3 : KeepBut a H (upd H2 a (.ins T.C dx (putF "plan" (.ref p) []))) := (((KeepBut.refl a H).same s1).same s2).put
    have hT3 : TabAt (upd H2 a (.ins T.C dx (putF "plan" (.ref p) []))) t1 TT := by
      obtain ⟨rs, e1, e2⟩ := hT2
      refine ⟨rs, ?_, e2.1, fun kk r row x y => ?_⟩
      · rw [upd_ne (ne_of e1 ha2 (by intro z; cases z))]
        exact e1
      · have := e2.2 kk r row x y
        rw [upd_ne (ne_of this ha2 (by intro z; cases z))]
        exact this
    refine ⟨_, rfl, t1, TT, m, rfl, hT3, g, hne, by omega, hmb, fun H4 r s4 hR => ?_⟩
    have ha4 := s4 _ _ (upd_same (H := H2) (a := a) (o := .ins T.C dx (putF "plan" (.ref p) [])))
    refine ⟨_, rfl, a, T.C, dx, _, rfl, ha4, T.clC, T.noC_tables, by show 1 < 1000; decide, ?_⟩
    have k5 := (k3.same s4).put (o := .ins T.C dx (putF "tables" (.ref r) (putF "plan" (.ref p) [])))
    have hR5 : TabAt (upd H4 a (.ins T.C dx (putF "tables" (.ref r) (putF "plan" (.ref p) [])))) r (num TT) := by
      obtain ⟨rs, e1, e2⟩ := hR
      refine ⟨rs, ?_, e2.1, fun kk r row x y => ?_⟩
      · rw [upd_ne (ne_of e1 ha4 (by intro z; cases z))]
        exact e1
      · have := e2.2 kk r row x y
        rw [upd_ne (ne_of this ha4 (by intro z; cases z))]
        exact this
    obtain ⟨fl, -⟩ := num_fl hpos hl g hx
    have hnl := fl.len
    have hnp := fl.places hpos
    have hgl : (gfound (sys TT) 0 m).length ≤ m := gfound_len g.enough m
    have hlen := fl.good.len
    generalize hH5 : upd H4 a (.ins T.C dx (putF "tables" (.ref r) (putF "plan" (.ref p) []))) = H5 at k5 hR5 ⊢
    have ha5 : H5 a = some (.ins T.C dx (putF "tables" (.ref r) (putF "plan" (.ref p) []))) := by rw [← hH5, upd_same]
    obtain ⟨rs, er, ers⟩ := id hR5
    have h0 : 0 < (num TT).length := by omega
    obtain ⟨r0, h01, h02⟩ := ers.at (List.getElem?_eq_getElem h0)
    have hlen0 := hlen _ (List.getElem_mem h0)
    refine ⟨_, rfl, a, T.C, dx, _, _, rfl, ha5, T.clC, T.noC_tables, rfl, r, _, rfl, .inr (SqT.of er), _, _, rfl, rfl, _, rfl, ?_⟩
    rw [show decide ((0 : Int) < (((rs.map V.ref).length : Nat) : Int)) = true from decide_eq_true (by rw [List.length_map, ers.1]; omega)]
    refine iteT (B := _) ⟨_, rfl, a, T.C, dx, _, _, rfl, ha5, T.clC, T.noC_tables, rfl, r, _, 0, .ref r0, rfl, rfl, SqT.of er, atI_nat (by rw [List.getElem?_map, h01]; rfl), r0, _, rfl, .inr (SqT.of h02), ?_⟩
    rw [List.length_map, hlen0]
    refine ⟨_, rfl, RgOk.of_le (by omega) (by omega) (by omega) (by omega), fun o ho => ?_⟩
    rw [rgV_iv]
    have hoa : a ≠ o := ne_free ha5 ho
    refine ⟨_, rfl, a, T.C, dx, _, rfl, by rw [upd_ne hoa]; exact ha5, T.clC, T.noC_own_places, by show 2 < 1000; decide, ?_⟩
    refine k _ (gfound (sys TT) 0 m).length ?_ ⟨dx, r, o, upd_same, ?_, ?_⟩ hnp.symm
    · exact (k5.same (same_new (Same.refl _) ho)).put
    · refine ⟨rs, ?_, ers.1, fun kk r row x y => ?_⟩
      · rw [upd_ne (ne_of er ha5 (by intro z; cases z)), upd_ne (ne_free er ho)]
        exact er
      · have := ers.2 kk r row x y
        rw [upd_ne (ne_of this ha5 (by intro z; cases z)), upd_ne (ne_free this ho)]
        exact this
    · rw [upd_ne (Ne.symm hoa), upd_same]
end
end Cw

/-! ## CwI -/
namespace Cw
open PySem PySem.Spec PyProof.Rows L2 CwR
theorem walk_zipT {K : PySem.W.Frag} {a b : Addr} {xs ys : List V} {n : Nat} (hn : n = min xs.length ys.length) : Walk (RZ.ItzT K a b) n (fun H => SqT K H a xs ∧ SqT K H b ys) (YPair (fun i => xs[i]?) (fun i => ys[i]?)) := by
  subst hn
  refine ⟨fun i _ hi q => ?_, fun _ q => ⟨xs, ys, q.1, q.2, by omega⟩, fun i H v H' _ q y => ?_⟩
  · have h1 : i < xs.length := by omega
    have h2 : i < ys.length := by omega
    exact ⟨xs, ys, xs[i], ys[i], q.1, q.2, by simp [h1], by simp [h2]⟩
  · obtain ⟨T, x, z, h1, h2, h3, h4, h5⟩ := y
    exact ⟨T, x, z, h1, h2, h3, h4 xs q.1, h5 ys q.2⟩
def pr2 (p : Nat × Nat) : List V := [iv p.1, iv p.2]
/-- pairs of places at their addresses -/
def PrsAt (H : Hp) (ts : List Addr) (P : List (Nat × Nat)) : Prop := ts.length = P.length ∧ ∀ (i : Nat) (t : Addr) (p : Nat × Nat), ts[i]? = some t → P[i]? = some p → H t = some (.tup (pr2 p))
def PairsAt (H : Hp) (l : Addr) (P : List (Nat × Nat)) : Prop := ∃ ts : List Addr, H l = some (.lst (ts.map V.ref)) ∧ PrsAt H ts P
theorem PrsAt.same {H H' : Hp} {ts : List Addr} {P : List (Nat × Nat)} (h : PrsAt H ts P) (s : Same H H') : PrsAt H' ts P := ⟨h.1, fun i t p a b => s _ _ (h.2 i t p a b)⟩
theorem PairsAt.same {H H' : Hp} {l : Addr} {P : List (Nat × Nat)} (h : PairsAt H l P) (s : Same H H') : PairsAt H' l P := by
  obtain ⟨ts, a, b⟩ := h
  exact ⟨ts, s _ _ a, b.same s⟩
theorem PrsAt.get {H : Hp} {ts : List Addr} {P : List (Nat × Nat)} (h : PrsAt H ts P) {i : Nat} {x : V} (e : (ts.map V.ref)[i]? = some x) : ∃ t p, x = .ref t ∧ ts[i]? = some t ∧ P[i]? = some p ∧ H t = some (.tup (pr2 p)) := by
  rw [List.getElem?_map] at e
  cases hr : ts[i]? with
  | none => rw [hr] at e; cases e
  | some t =>
    rw [hr] at e
    cases e
    have hk : i < P.length := by rw [← h.1]; exact (List.getElem?_eq_some_iff.mp hr).1
    exact ⟨t, P[i], rfl, rfl, List.getElem?_eq_getElem hk, h.2 i t _ hr (List.getElem?_eq_getElem hk)⟩
theorem PrsAt.at {H : Hp} {ts : List Addr} {P : List (Nat × Nat)} (h : PrsAt H ts P) {i : Nat} {p : Nat × Nat} (e : P[i]? = some p) : ∃ t, ts[i]? = some t ∧ H t = some (.tup (pr2 p)) := by
  have hk : i < ts.length := by rw [h.1]; exact (List.getElem?_eq_some_iff.mp e).1
  exact ⟨ts[i], List.getElem?_eq_getElem hk, h.2 i _ p (List.getElem?_eq_getElem hk) e⟩
theorem dp_row {K : PySem.W.Frag} {H : Hp} {r : Addr} {row : List Nat} (h : H r = some (.tup (row.map iv))) : Dp K H (.ref r) (rowD row) := by
  refine .tup (SqT.of h) ?_
  clear h
  induction row with
  | nil => exact .nil
  | cons n row ih => exact .cons (.int _) ih
theorem dp_rows {K : PySem.W.Frag} {H : Hp} : ∀ {rs : List Addr} {T : Tab}, RowsAt H rs T .tup → DpAll K H (rs.map V.ref) (T.map rowD)
  | [], [], _ => .nil
  | [], _ :: _, h => absurd h.1 (by simp)
  | _ :: _, [], h => absurd h.1 (by simp)
  | r :: rs, row :: T, h => .cons (dp_row (h.2 0 r row rfl rfl)) (dp_rows ⟨by simpa using h.1, fun k r' row' a b => h.2 (k + 1) r' row' (by simpa using a) (by simpa using b)⟩)
section
variable {P : Program} {w : World} {K : PySem.W.Frag} {mg : Str → Option Value} {base : Heap}
def spClosedLen (C : Addr) : Sp := fun vs H Q _ => ∃ (a p : Addr) (T : Tab) (m : Nat), vs = [.ref a] ∧ FlAt C H a p T m ∧ Q (iv m) H
theorem ok_closed_len (T : TF K mg) : FnOk P w K mg base CX0 1 T.f_closed_len T.d_closed_len ["self"] (spClosedLen T.C) := by
  refine T.F_closed_len.ok sc_closed_len (fun vs H Q E h => ?_) (fun cdv A outer s H vs Q E hr h => ?_)
  · obtain ⟨_, _, _, _, rfl, _⟩ := h
    rfl
  · obtain ⟨a, p, TT, m, rfl, ⟨dx, t, o, e1, e2, e3⟩, k⟩ := h
    have nd := sc_closed_len.nd
    refine ⟨_, (pss_one (ps_ret (pe_callB call_len_seq (by rfl) T.z_len PySem.boot_len (pa_cons (pe_fld (pv 0) rfl) (pa_nil))))), ?_⟩
    refine ⟨_, rfl, a, T.C, dx, _, _, rfl, e1, T.clC, T.noC_own_places, rfl, o, _, rfl, .inr (SqT.of e3), ?_⟩
    rw [List.length_map, List.length_range]
    exact k
def spClosedEq (P C : Addr) : Sp := fun vs H Q _ => ∃ (a b p : Addr) (ks : List Nat) (qs : List (Nat × Nat)) (T T' : Tab) (m m' : Nat), vs = [.ref a, .ref b] ∧ PlanAt P H p ks qs ∧ FlAt C H a p T m ∧ FlAt C H b p T' m' ∧ Q (.bl (decide (T = T'))) H
theorem ok_closed_eq (T : TF K mg) : FnOk P w K mg base CX0 2 T.f_closed_eq T.d_closed_eq ["self", "other"] (spClosedEq T.P T.C) := by
  refine T.F_closed_eq.ok sc_closed_eq (fun vs H Q E h => ?_) (fun cdv A outer s H vs Q E hr h => ?_)
  · obtain ⟨_, _, _, _, _, _, _, _, _, rfl, _⟩ := h
    rfl
  · obtain ⟨a, b, p, ks, qs, TT, TT', m, m', rfl, hp, ⟨dx, t, o, e1, ⟨rs, er, ers⟩, e3⟩, ⟨dx', t', o', e1', ⟨rs', er', ers'⟩, e3'⟩, k⟩ := h
    have nd := sc_closed_eq.nd
    refine ⟨_, (pss_one (ps_ret (pe_and (pe_callB call_isi (by rfl) T.z_isinstance (by decide +kernel) (pa_cons (pv 1) (pa_cons (pe_glob (v := .ref T.C) rfl T.mgC rfl) (pa_nil)))) (pe_and (pe_cmpR (op_cmpOwn (op := .Eq) (fun _ _ => rfl) T.nfP T.m_plan_eq T.i_plan_eq (ok_plan_eq T) (hr.mono (by decide)) T.b_plan_eq pass0) (pe_fld (pv 0) rfl) (pe_fld (pv 1) rfl) (nomark _)) (pe_one (pe_cmpR (op_eqD hr.units) (pe_fld (pv 0) rfl) (pe_fld (pv 1) rfl) (nomark _))))))), ?_⟩
    obtain ⟨_, _, dxp, pr, d, ep1, ep2⟩ := id hp
    refine ⟨_, rfl, _, _, _, _, true, rfl, .own _, ty_closed T e1', kit_self _, true, rfl, iteT ?_⟩
    refine ⟨_, rfl, a, T.C, dx, _, _, rfl, e1, T.clC, T.noC_plan, rfl, _, rfl, b, T.C, dx', _, _, rfl, e1', T.clC, T.noC_plan, rfl, p, dxp, _, p, dxp, _, rfl, rfl, ep1, ep1, p, ks, qs, rfl, hp, true, rfl, iteT ?_⟩
    refine ⟨_, rfl, a, T.C, dx, _, _, rfl, e1, T.clC, T.noC_tables, rfl, _, rfl, b, T.C, dx', _, _, rfl, e1', T.clC, T.noC_tables, rfl, _, _, .tup (SqT.of er) (dp_rows ers), .tup (SqT.of er') (dp_rows ers'), shaped_rows _, shaped_rows _, ?_⟩
    rw [PyData.eqv, eqvAll_rows]
    exact k
theorem gsucc_msys (T T' : Tab) (x : Nat × Nat) : gsucc (msys T T') x = List.zipWith (fun r s => (r.getD x.1 0, s.getD x.2 0)) T T' := by
  unfold gsucc msys
  rw [List.map_zipWith]
def spFollowing (C : Addr) : Sp := fun vs H Q _ => ∃ (a b p q : Addr) (T T' : Tab) (m m' : Nat) (x : Nat × Nat), vs = [.ref a, .ref b, .ref q] ∧ FlAt C H a p T m ∧ FlAt C H b p T' m' ∧ T.length = T'.length ∧ T.length ≤ 26 ∧ (∀ row ∈ T, x.1 < row.length) ∧ (∀ row ∈ T', x.2 < row.length) ∧ H q = some (.tup (pr2 x)) ∧
  ∀ H' l, Same H H' → H l = none → PairsAt H' l (gsucc (msys T T') x) → Q (.ref l) H'
theorem ok_following_pairs (T : TF K mg) : FnOk P w K mg base CX0 1 T.f_following_pairs T.d_following_pairs ["one", "other", "pair"] (spFollowing T.C) := by
  refine T.F_following_pairs.ok sc_following_pairs (fun vs H Q E h => ?_) (fun cdv A outer s H vs Q E hr h => ?_)
  · obtain ⟨_, _, _, _, _, _, _, _, _, rfl, _⟩ := h
    rfl
  · obtain ⟨a, b, p, q, TT, TT', m, m', x, rfl, ⟨dx, t, o, e1, ⟨rs, er, ers⟩, e3⟩, ⟨dx', t', o', e1', ⟨rs', er', ers'⟩, e3'⟩, hl, hl26, hx1, hx2, hq, k⟩ := h
    have nd := sc_following_pairs.nd
    refine ⟨_, (pss_one (ps_ret (pe_lc (own := [("row", 3), ("line", 4)]) (g := (gTup K 2 (gCons (gName 3) (gCons (gName 4) gNil)))) (tt := tYes) rfl nd (RZ.pi_zipA rfl T.z_zip (pa_cons (pe_fld (pv 0) rfl) (pa_cons (pe_fld (pv 1) rfl) (pa_nil)))) (blkOk_by (own := [("row", 3), ("line", 4)]) (N := n_following_pairs) (sc := defScope s_following_pairs) (by decide +kernel)) (fun _ _ _ _ _ => (pg_tup (by rfl) (pgs_cons (pg_name (i := 3) nd rfl (by first | exact Or.inl rfl | exact Or.inr rfl)) (pgs_cons (pg_name (i := 4) nd rfl (by first | exact Or.inl rfl | exact Or.inr rfl)) (pgs_nil))))) (fun _ _ _ _ _ => pts_nil) (fun _ _ _ _ _ => (pe_tup (pa_cons (pe_ix (ix_tupK (K := K)) (pv 3) (pe_ix (ix_tupK (K := K)) (pv 2) pe_int (fun _ _ => rfl)) (fun _ _ => rfl)) (pa_cons (pe_ix (ix_tupK (K := K)) (pv 4) (pe_ix (ix_tupK (K := K)) (pv 2) pe_int (fun _ _ => rfl)) (fun _ _ => rfl)) (pa_nil)))))))), ?_⟩
    have big : sizeLine ≥ 1000000 := by decide
    refine ⟨_, rfl, a, T.C, dx, _, _, rfl, e1, T.clC, T.noC_tables, rfl, _, rfl, b, T.C, dx', _, _, rfl, e1', T.clC, T.noC_tables, rfl, t, t', _, _, rfl, .inr ⟨SqT.of er, SqT.of er', fun D hD => ?_⟩⟩
    refine lc_refs (walk_zipT (xs := rs.map V.ref) (ys := rs'.map V.ref) (n := TT.length) (by rw [List.length_map, List.length_map, ers.1, ers'.1]; omega)) (fun i => .tup (pr2 ((TT.getD i []).getD x.1 0, (TT'.getD i []).getD x.2 0))) hD (by omega) (fun H3 s3 => ⟨SqT.of (s3 _ _ er), SqT.of (s3 _ _ er')⟩) (fun i z H3 H' kk hi s3 hDl y kt => ?_) (fun H3 ts s3 hD3 hn hts => ?_)
    · obtain ⟨Tp, x1, x2, rfl, hTp, rfl, ex1, ex2⟩ := y
      obtain ⟨r, row, rfl, hr1, hr2, hr3⟩ := (ers.same s3).row ex1
      obtain ⟨r', row', rfl, hr1', hr2', hr3'⟩ := (ers'.same s3).row ex2
      have s4 : Same H3 (upd H3 Tp (.tup [.ref r, .ref r'])) := same_new (Same.refl _) hTp
      refine ⟨Tp, _, rfl, SqT.of upd_same, rfl, _, _, rfl, _, _, rfl, rfl, rfl, ?_⟩
      have g1 := hx1 row (List.mem_of_getElem? hr2)
      have g2 := hx2 row' (List.mem_of_getElem? hr2')
      have hq' := s4 _ _ (s3 _ _ hq)
      refine ⟨_, rfl, _, rfl, q, _, _, _, rfl, rfl, SqT.of hq', rfl, r, _, _, _, rfl, rfl, SqT.of (s4 _ _ hr3), iv_at g1, _, rfl, _, rfl, q, _, _, _, rfl, rfl, SqT.of hq', rfl, r', _, _, _, rfl, rfl, SqT.of (s4 _ _ hr3'), iv_at g2, by show 2 ≤ sizeLine; omega, fun l hl2 => ?_⟩
      refine kt _ l (same_new s4 (Same.free s4 hl2)) ?_ ?_
      · rw [upd_same, getD_of hr2, getD_of hr2']
        rfl
      · obtain ⟨xs, hx⟩ := hDl
        exact fun e => by rw [e, s4 _ _ hx] at hl2; cases hl2
    · refine k _ D s3 hD ⟨ts, hD3, ?_, fun i t p a b => ?_⟩
      · rw [hn, gsucc_msys, List.length_zipWith]
        omega
      · have h1 := hts i t a
        rw [gsucc_msys, List.getElem?_zipWith] at b
        cases h2 : TT[i]? with
        | none => rw [h2] at b; simp at b
        | some r =>
          cases h3 : TT'[i]? with
          | none => rw [h2, h3] at b; simp at b
          | some r' =>
            rw [h2, h3] at b
            rw [getD_of h2, getD_of h3] at h1
            have b2 := Option.some.inj b
            rw [← b2]
            exact h1
end
end Cw

/-! ## CwJ -/
namespace Cw
open PySem PySem.Spec PyProof.Rows L2 CwR
def pkey (p : Nat × Nat) : List Key := [.inl (p.1 : Int), .inl (p.2 : Int)]
theorem pkey_inj {p q : Nat × Nat} : pkey p = pkey q ↔ p = q := by
  constructor
  · intro h
    unfold pkey at h
    injection h with h1 h2
    injection h2 with h2 _
    injection h1 with h1
    injection h2 with h2
    exact Prod.ext (by omega) (by omega)
  · intro h; rw [h]
def SeenP (H : Hp) (d : Addr) (L : List (Nat × Nat)) : Prop := ∃ kvs : List (List Key × V), H d = some (.dT kvs) ∧ kvs.length = L.length ∧ ∀ p : Nat × Nat, (valV kvs (pkey p)).isSome = decide (p ∈ L)
section
variable {P : Program} {w : World} {K : PySem.W.Frag} {mg : Str → Option Value} {base : Heap}
def spMetPairs (C : Addr) : Sp := fun vs H Q _ => ∃ (a b p : Addr) (T T' : Tab) (n m m' : Nat) (prs : List (Nat × Nat)), vs = [.ref a, .ref b] ∧ FlAt C H a p T m ∧ FlAt C H b p T' m' ∧ Fl n prs T m ∧ Fl n prs T' m' ∧ 0 < n ∧ n ≤ 26 ∧ m * m' ≤ 100000 ∧
  ∀ H' l, Same H H' → H l = none → PairsAt H' l (met T T') → Q (.ref l) H'
theorem ok_met_pairs (T : TF K mg) : FnOk P w K mg base CX0 2 T.f_met_pairs T.d_met_pairs ["one", "other"] (spMetPairs T.C) := by
  refine T.F_met_pairs.ok sc_met_pairs (fun vs H Q E h => ?_) (fun cdv A outer s H vs Q E hr h => ?_)
  · obtain ⟨_, _, _, _, _, _, _, _, _, rfl, _⟩ := h
    rfl
  · obtain ⟨a, b, p, TT, TT', n, m, m', prs, rfl, fa, fb, fl, fl', hn, hn26, hmb, k⟩ := h
    have nd := sc_met_pairs.nd
    refine ⟨_, (pss_cons (ps_set (i := 2) nd rfl (Or.inl rfl) (pe_lst (pa_cons (pe_tup (pa_cons pe_int (pa_cons pe_int (pa_nil)))) (pa_nil))))
      (pss_cons (ps_set (i := 3) nd rfl (Or.inl rfl) (pe_dispT hr.units0 (pe_tup (pa_cons pe_int (pa_cons pe_int (pa_nil)))) pe_bl))
      (pss_cons (ps_set (i := 4) nd rfl (Or.inl rfl) pe_int)
      (pss_cons (ps_while PassesOwn.never (pt_cmpR op_lt (pv 4) (pe_callB call_len_seq (by rfl) T.z_len PySem.boot_len (pa_cons (pv 2) (pa_nil))) (nomark _)) (pss_cons (ps_for PassesOwn.never rfl (pi_list (pe_call (ok_following_pairs T) (hr.mono (by decide)) rfl T.m_following_pairs T.F_following_pairs.kp T.b_following_pairs .nil pass0 (pa_cons (pv 0) (pa_cons (pv 1) (pa_cons (pe_ix ix_list (pv 2) (pv 4) (fun _ _ => rfl)) (pa_nil)))))) (pg_name (i := 5) nd rfl (Or.inl rfl)) (pss_one (ps_if (pt_cmp (pc_dnotin (hu_of hr) (pv 5) (pv 3))) (pss_cons (ps_dput (hu_of hr) (pv 3) (pv 5) pe_bl rfl)
      (pss_one (ps_expr (pe_bm PySem.F.plainAttrs_list PySem.F.slot_list_append PySem.F.type_list_append mt_append (pv 2) (pa_cons (pv 5) (pa_nil)))))) pss_nil)))
      (pss_one (ps_aug (i := 4) nd rfl (Or.inl rfl) pe_int ip_add))))
      (pss_one (ps_ret (pv 2))))))), ?_⟩
    have big : sizeLine ≥ 1000000 := by decide
    have hlen : TT.length = TT'.length := fl.len.trans fl'.len.symm
    have en := met_enough fl fl'
    have emet := met_eq fl fl' hn
    refine ⟨by show 2 ≤ sizeLine; omega, fun z hz => ⟨by show 1 ≤ sizeLine; omega, fun f hf => ?_⟩⟩
    have s1 : Same H (upd H z (.tup [.int 0, .int 0])) := same_new (Same.refl H) hz
    have hf0 := Same.free s1 hf
    have s2 : Same H (upd (upd H z (.tup [.int 0, .int 0])) f (.lst [.ref z])) := same_new s1 hf0
    intro d hd
    have hd0 := Same.free s2 hd
    have hfd : f ≠ d := ne_free upd_same hd
    refine ⟨by show 2 ≤ sizeLine; omega, fun z2 hz2 => ?_⟩
    have hz20 := Same.free (same_new s2 hd0) hz2
    have hdz2 : d ≠ z2 := ne_free upd_same hz2
    refine ⟨pkey (0, 0), z2, rfl, upd_same, by rw [upd_ne hdz2, upd_same], ?_⟩
    have hzf : z ≠ f := ne_free (upd_same (H := H) (a := z)) hf
    have hzd : z ≠ d := ne_free (o := .tup [.int 0, .int 0]) (by rw [upd_ne hzf, upd_same]) hd
    have hzz2 : z ≠ z2 := ne_free (o := .tup [.int 0, .int 0]) (by rw [upd_ne hzd, upd_ne hzf, upd_same]) hz2
    have hfz2 : f ≠ z2 := ne_free (o := .lst [.ref z]) (by rw [upd_ne hfd, upd_same]) hz2
    have big1 : ∀ i, (gfound (msys TT TT') (0, 0) i).length ≤ m * m' := fun i => gfound_len en i
    let St : Nat → L2.St → Hp → Prop := fun i σ H1 => (∃ x, σ = [some (.ref a), some (.ref b), some (.ref f), some (.ref d), some (iv i), x]) ∧ Same H H1 ∧ PairsAt H1 f (gfound (msys TT TT') (0, 0) i) ∧ SeenP H1 d (gfound (msys TT TT') (0, 0) i) ∧ ∀ j, j < i → j < (gfound (msys TT TT') (0, 0) j).length
    refine ⟨fun μ σ H1 => ∃ i, μ = m * m' - i ∧ St i σ H1, ⟨m * m', 0, rfl, ⟨_, rfl⟩, ?_, ?_, ?_, fun j hj => absurd hj (Nat.not_lt_zero _)⟩, ?_⟩
    · exact same_new (same_new (same_new s2 hd0) hz20) hd0
    · refine ⟨[z], by rw [upd_ne hfd, upd_ne hfz2, upd_ne hfd, upd_same]; rfl, rfl, fun i t p h1 h2 => ?_⟩
      cases i with
      | zero =>
        have : z = t := by simpa using h1
        subst this
        have : (0, 0) = p := Option.some.inj h2
        subst this
        rw [upd_ne hzd, upd_ne hzz2, upd_ne hzd, upd_ne hzf, upd_same]
        rfl
      | succ i => simp at h1
    · refine ⟨_, upd_same, rfl, fun p => ?_⟩
      show (valV (putK [] (pkey (0, 0)) (.bl true)) (pkey p)).isSome = decide (p ∈ [(0, 0)])
      rw [valV_put]
      by_cases e : p = (0, 0)
      · subst e; rfl
      · rw [if_neg (fun h => e (pkey_inj.mp h))]
        have : decide (p ∈ [((0 : Nat), (0 : Nat))]) = false := decide_eq_false (by rw [List.mem_singleton]; exact e)
        rw [this]
        rfl
    rintro μ σ H1 ⟨i, rfl, ⟨x, rfl⟩, s3, ⟨ts, hL, hts⟩, hS, hlt⟩
    refine ⟨_, rfl, _, rfl, f, _, rfl, .inl (SqL.of hL), _, _, rfl, rfl, _, rfl, ?_⟩
    rw [List.length_map, hts.1]
    by_cases hi : i < (gfound (msys TT TT') (0, 0) i).length
    · rw [show decide (((i : Nat) : Int) < (((gfound (msys TT TT') (0, 0) i).length : Nat) : Int)) = true from decide_eq_true (by omega)]
      refine iteT (B := _) ?_
      have him : i < m * m' := Nat.lt_of_lt_of_le hi (big1 i)
      refine ⟨St (i + 1), fun σ' H' h => ⟨m * m' - (i + 1), by omega, i + 1, rfl, h⟩, ?_⟩
      obtain ⟨xp, hx⟩ : ∃ xp, (gfound (msys TT TT') (0, 0) i)[i]? = some xp := ⟨_, List.getElem?_eq_getElem hi⟩
      have hxm : xp.1 < m ∧ xp.2 < m' := by
        obtain ⟨w, rfl⟩ := gfound_reach i xp (List.mem_of_getElem? hx)
        rw [msys_walk hlen]
        exact ⟨fl.good.walk_lt w, fl'.good.walk_lt w⟩
      have enxt : gfound (msys TT TT') (0, 0) (i + 1) = addAll (gfound (msys TT TT') (0, 0) i) (gsucc (msys TT TT') xp) := bfs_succ_at hx
      generalize hLdef : gfound (msys TT TT') (0, 0) i = L at hL hS hi hx enxt hts
      have hLm : L.length ≤ m * m' := by rw [← hLdef]; exact big1 i
      have htot : (addAll L (gsucc (msys TT TT') xp)).length ≤ m * m' := by rw [← enxt]; exact big1 (i + 1)
      obtain ⟨tx, htx1, htx2⟩ := hts.at hx
      refine ⟨_, rfl, _, rfl, _, rfl, _, rfl, f, _, _, .ref tx, rfl, rfl, SqL.of hL, atI_nat (by rw [List.getElem?_map, htx1]; rfl), a, b, p, tx, TT, TT', m, m', xp, rfl, fa.same s3, fb.same s3, hlen, by have := fl.len; omega, fun row hr => by rw [fl.good.len row hr]; exact hxm.1, fun row hr => by rw [fl'.good.len row hr]; exact hxm.2, htx2, fun H2 l s4 hl0 hPl => ?_⟩
      obtain ⟨us, hl, hus⟩ := hPl
      have hlf : l ≠ f := (ne_free hL hl0).symm
      have hld : l ≠ d := by
        obtain ⟨kvs, hk, _⟩ := hS
        exact (ne_free hk hl0).symm
      have hS2 : SeenP H2 d L := by
        obtain ⟨kvs, h1, h2, h3⟩ := hS
        exact ⟨kvs, s4 _ _ h1, h2, h3⟩
      let Q0 : Hp → Prop := fun H3 => Same H H3 ∧ H3 l = some (.lst (us.map V.ref)) ∧ PrsAt H3 us (gsucc (msys TT TT') xp)
      have put : ∀ H3 (c : Addr) (o : HO), Q0 H3 → H c = none → c ≠ l → (∀ t ∈ us, t ≠ c) → Q0 (upd H3 c o) := fun H3 c o q hc hcl hcu => by
        refine ⟨same_new q.1 hc, by rw [upd_ne hcl.symm]; exact q.2.1, q.2.2.1, fun j t p a b => ?_⟩
        rw [upd_ne (hcu t (List.mem_of_getElem? a))]
        exact q.2.2.2 j t p a b
      refine ⟨l, rfl, ⟨_, SqL.of hl⟩, for_it (walk_list (xs := us.map V.ref)) (fun k σ H3 => (∃ x, σ = [some (.ref a), some (.ref b), some (.ref f), some (.ref d), some (iv i), x]) ∧ Q0 H3 ∧ PairsAt H3 f (addAll L ((gsucc (msys TT TT') xp).take k)) ∧ SeenP H3 d (addAll L ((gsucc (msys TT TT') xp).take k)))
        ⟨⟨x, rfl⟩, ⟨s3.trans s4, hl, hus⟩, ⟨ts, s4 _ _ hL, hts.same s4⟩, hS2⟩ (fun _ σ H2 _ h => SqL.of h.2.1.2.1) (fun k y σ H3 H4 hk h hy => ?_) (fun σ H3 h => ?_)⟩
      · obtain ⟨⟨x, rfl⟩, q0, ⟨ts2, hL2, hts2⟩, hS3⟩ := h
        obtain ⟨rfl, hyx⟩ := hy
        obtain ⟨t, yp, rfl, ht1, ht2, ht3⟩ := q0.2.2.get hyx
        have etk : (gsucc (msys TT TT') xp).take (k + 1) = (gsucc (msys TT TT') xp).take k ++ [yp] := by
          rw [List.take_add_one, ht2]
          rfl
        generalize hL'def : addAll L ((gsucc (msys TT TT') xp).take k) = L' at hts2 hS3
        have enx : addAll L ((gsucc (msys TT TT') xp).take (k + 1)) = if yp ∈ L' then L' else L' ++ [yp] := by
          rw [etk, addAll_snoc, hL'def]
          by_cases h : yp ∈ L'
          · rw [if_pos h, if_pos h]
          · rw [if_neg h, if_neg h]
        have hlen' : L'.length ≤ m * m' := by
          refine Nat.le_trans ?_ htot
          have hpre : L' <+: addAll L (gsucc (msys TT TT') xp) := by
            rw [← hL'def]
            conv => rhs; rw [← List.take_append_drop k (gsucc (msys TT TT') xp), addAll_append]
            exact addAll_prefix _ _
          exact hpre.length_le
        obtain ⟨kvs, hk1, hk2, hk3⟩ := hS3
        refine ⟨_, rfl, _, rfl, d, _, rfl, DGet.t (k := pkey yp) hk1 ht3, _, rfl, ?_⟩
        rw [hk3, enx]
        by_cases hin : yp ∈ L'
        · rw [decide_eq_true hin, if_pos hin]
          exact iteF ⟨⟨_, rfl⟩, q0, ⟨ts2, hL2, hts2⟩, kvs, hk1, hk2, hk3⟩
        · rw [decide_eq_false hin, if_neg hin]
          refine iteT (B := _) ?_
          have hvn : valV kvs (pkey yp) = none := by
            have := hk3 yp
            rw [decide_eq_false hin] at this
            cases e : valV kvs (pkey yp) with
            | none => rfl
            | some v => rw [e] at this; cases this
          refine ⟨_, rfl, _, rfl, d, _, rfl, DPut.t (k := pkey yp) hk1 ht3 (by omega), ?_⟩
          have htsf : ∀ u ∈ us, u ≠ f := fun u hu e => by
            obtain ⟨j, hj⟩ := List.mem_iff_getElem?.mp hu
            have hjl : j < (gsucc (msys TT TT') xp).length := by rw [← q0.2.2.1]; exact (List.getElem?_eq_some_iff.mp hj).1
            have := q0.2.2.2 j u _ hj (List.getElem?_eq_getElem hjl)
            rw [e, hL2] at this
            cases this
          have htsd : ∀ u ∈ us, u ≠ d := fun u hu e => by
            obtain ⟨j, hj⟩ := List.mem_iff_getElem?.mp hu
            have hjl : j < (gsucc (msys TT TT') xp).length := by rw [← q0.2.2.1]; exact (List.getElem?_eq_some_iff.mp hj).1
            have := q0.2.2.2 j u _ hj (List.getElem?_eq_getElem hjl)
            rw [e, hk1] at this
            cases this
          have q1 := put _ d (.dT (putK kvs (pkey yp) (.bl true))) q0 hd0 hld.symm htsd
          have hL3 : upd H4 d (.dT (putK kvs (pkey yp) (.bl true))) f = some (.lst (ts2.map V.ref)) := by rw [upd_ne hfd]; exact hL2
          refine ⟨_, rfl, .inl ⟨rfl, _, SqL.of hL3⟩, _, rfl, f, _, _, rfl, rfl, hL3, by rw [List.length_map, hts2.1]; omega, ⟨_, rfl⟩, put _ f _ q1 hf0 hlf.symm htsf, ⟨ts2 ++ [t], by rw [upd_same, List.map_append]; rfl, by rw [List.length_append, List.length_append, hts2.1]; rfl, fun j u pp a b => ?_⟩, ?_⟩
          · have hu : upd H4 d (.dT (putK kvs (pkey yp) (.bl true))) u = some (.tup (pr2 pp)) := by
              by_cases hj : j < ts2.length
              · rw [app_getElem? hj] at a
                rw [app_getElem? (by rw [← hts2.1]; exact hj)] at b
                have := hts2.2 j u pp a b
                rw [upd_ne (ne_of this hk1 (by intro z; cases z))]
                exact this
              · have hj' : j = ts2.length := by
                  have := (List.getElem?_eq_some_iff.mp a).1
                  simp at this
                  omega
                rw [List.getElem?_append_right (by omega)] at a
                rw [List.getElem?_append_right (by rw [← hts2.1]; omega)] at b
                rw [hj', Nat.sub_self] at a
                rw [hj', hts2.1, Nat.sub_self] at b
                have a2 : t = u := by simpa using a
                have b2 : yp = pp := by simpa using b
                subst a2 b2
                rw [upd_ne (ne_of ht3 hk1 (by intro z; cases z))]
                exact ht3
            rw [upd_ne (ne_of hu hL3 (by intro z; cases z))]
            exact hu
          · refine ⟨putK kvs (pkey yp) (.bl true), by rw [upd_ne (Ne.symm hfd), upd_same], ?_, fun pp => ?_⟩
            · rw [putK_new _ hvn, List.length_append, List.length_append, hk2]
              rfl
            · rw [valV_put]
              by_cases e : pp = yp
              · subst e
                rw [if_pos rfl]
                simp
              · rw [if_neg (fun h => e (pkey_inj.mp h)), hk3]
                exact decide_eq_decide.mpr (by rw [List.mem_append, List.mem_singleton]; exact ⟨Or.inl, fun h => h.resolve_right e⟩)
      · obtain ⟨⟨x, rfl⟩, q0, hL2, hS3⟩ := h
        have etake : (gsucc (msys TT TT') xp).take (us.map V.ref).length = gsucc (msys TT TT') xp := List.take_of_length_le (by rw [List.length_map, hus.1]; exact Nat.le_refl _)
        rw [etake] at hL2 hS3
        refine ⟨_, rfl, _, _, rfl, rfl, ⟨_, rfl⟩, q0.1, ?_, ?_, fun j hj => ?_⟩
        · rw [enxt]; exact hL2
        · rw [enxt]; exact hS3
        · by_cases e : j = i
          · subst e; rw [hLdef]; exact hi
          · exact hlt j (by omega)
    · rw [show decide (((i : Nat) : Int) < (((gfound (msys TT TT') (0, 0) i).length : Nat) : Int)) = false from decide_eq_false (by omega)]
      refine iteF (A := _) ?_
      rw [gfound_at en (by omega) hlt, ← emet] at hts
      exact ⟨_, rfl, k _ f s3 hf0 ⟨ts, hL, hts⟩⟩
end
end Cw

/-! ## CwK -/
namespace Cw
open PySem PySem.Spec PyProof.Rows L2 CwR
/-- a comprehension that makes new objects, told by a relation -/
theorem lc_rel {J : It} {n : Nat} {G : Hp → Prop} {Y : Nat → Hp → V → Hp → Prop} (w : Walk J n G Y) {g : TG} {te : TE} {vs : List Nat} {σ : L2.St} {H1 : Hp} {D : Addr} {Qd : Hp → Prop}
    (R : Nat → Addr → Hp → Prop) (hst : ∀ i t H H', R i t H → Same H H' → R i t H') (hput : ∀ i t H xs ys, H D = some (.lst xs) → t ≠ D → R i t H → R i t (upd H D (.lst ys))) (hD : H1 D = none) (hn : n ≤ sizeLine) (hG : ∀ H, Same H1 H → G H)
    (hs : ∀ i x H H' (k : V → Hp → Prop), i < n → Same H1 H → (∃ xs, H D = some (.lst xs)) → Y i H x H' → (∀ H4 t, Same H H4 → R i t H4 → t ≠ D → k (.ref t) H4) →
      g x (wipe σ vs) H' fun σ2 H2 => wipe σ2 vs = wipe σ vs ∧ te σ2 H2 k)
    (hd : ∀ H (ts : List Addr), Same H1 H → H D = some (.lst (ts.map V.ref)) → ts.length = n → (∀ i t, ts[i]? = some t → R i t H) → Qd H) :
    ∃ W : Nat → Nat → Hp → Prop, (∃ m, W 0 m (upd H1 D (.lst []))) ∧ ∀ i m H, W i m H →
      (J.stop i H ∧ Qd H) ∨ (J.go i H ∧ ∃ Nx : Hp → Prop, (∀ H', Nx H' → ∃ m', m' < m ∧ W (i + 1) m' H') ∧ ∀ x H', J.yld i H x H' → g x (wipe σ vs) H' fun σ2 H2 => wipe σ2 vs = wipe σ vs ∧ tYes σ2 H2 fun b H3 =>
        if b = true then te σ2 H3 fun y H4 => ∃ acc, H4 D = some (.lst acc) ∧ acc.length < sizeLine ∧ Nx (upd H4 D (.lst (acc ++ [y]))) else Nx H3) := by
  refine lc_it w (fun i H => Same H1 H ∧ ∃ ts : List Addr, ts.length = i ∧ H D = some (.lst (ts.map V.ref)) ∧ ∀ j t, ts[j]? = some t → t ≠ D ∧ R j t H)
    ⟨same_new (Same.refl H1) hD, [], rfl, upd_same, fun j t e => by simp at e⟩ (fun i H _ h => hG H h.1) (fun i x H H' hi h y => ?_) (fun H h => ?_)
  · obtain ⟨s1, ts, hl, hDl, ht⟩ := h
    refine hs i x H H' _ hi s1 ⟨_, hDl⟩ y (fun H4 t s4 h4 hne => ?_)
    refine ⟨_, s4 _ _ hDl, by rw [List.length_map]; omega, same_new (s1.trans s4) hD, ts ++ [t], by simp [hl], by rw [upd_same, List.map_append]; rfl, fun j u e => ?_⟩
    by_cases hj : j < ts.length
    · rw [app_getElem? hj] at e
      obtain ⟨a, b⟩ := ht j u e
      exact ⟨a, hput _ _ _ _ _ (s4 _ _ hDl) a (hst _ _ _ _ b s4)⟩
    · have hj' : j = ts.length := by
        have := (List.getElem?_eq_some_iff.mp e).1
        simp at this
        omega
      subst hj'
      rw [List.getElem?_append_right (Nat.le_refl _)] at e
      simp at e
      subst e
      exact ⟨hne, hput _ _ _ _ _ (s4 _ _ hDl) hne (hl ▸ h4)⟩
  · obtain ⟨s1, ts, hl, hDl, ht⟩ := h
    exact hd H ts s1 hDl hl fun i t e => (ht i t e).2
theorem same_but {H Hm H' : Hp} {x : Addr} (s : Same H Hm) (e : H x = none) (k : KeepBut x Hm H') : Same H H' := fun b o hb => k b o (fun q => by rw [q, e] at hb; cases hb) (s b o hb)
theorem made_same {H : Hp} {x dx : Addr} {o o' : HO} (h1 : H x = none) (h2 : H dx = none) : Same H (upd (upd H dx o) x o') := same_new (same_new (Same.refl H) h2) h1
section
variable {P : Program} {w : World} {K : PySem.W.Frag} {mg : Str → Option Value} {base : Heap}
/-- two floors over one plan -/
structure Two (P C : Addr) (H : Hp) (a b p : Addr) (ks : List Nat) (qs : List (Nat × Nat)) (T T' : Tab) (m m' : Nat) : Prop where
  pl : PlanAt P H p ks qs
  fa : FlAt C H a p T m
  fb : FlAt C H b p T' m'
  fl : Fl ks.length (prsOf ks qs) T m
  fl' : Fl ks.length (prsOf ks qs) T' m'
  pos : 0 < ks.length
  few : ks.length ≤ 26
  sm : m * m' ≤ 100000
theorem Two.same {P C : Addr} {H H' : Hp} {a b p : Addr} {ks : List Nat} {qs : List (Nat × Nat)} {T T' : Tab} {m m' : Nat} (h : Two P C H a b p ks qs T T' m m') (s : Same H H') : Two P C H' a b p ks qs T T' m m' :=
  ⟨h.pl.same s, h.fa.same s, h.fb.same s, h.fl, h.fl', h.pos, h.few, h.sm⟩
def spClosedLe (P C : Addr) : Sp := fun vs H Q _ => ∃ (a b p : Addr) (ks : List Nat) (qs : List (Nat × Nat)) (T T' : Tab) (m m' : Nat), vs = [.ref a, .ref b] ∧ Two P C H a b p ks qs T T' m m' ∧ ∀ H' c, Same H H' → (c = true ↔ Le T T') → Q (.bl c) H'
theorem ok_closed_le (T : TF K mg) : FnOk P w K mg base CX0 4 T.f_closed_le T.d_closed_le ["self", "other"] (spClosedLe T.P T.C) := by
  refine T.F_closed_le.ok sc_closed_le (fun vs H Q E h => ?_) (fun cdv A outer s H vs Q E hr h => ?_)
  · obtain ⟨_, _, _, _, _, _, _, _, _, rfl, _⟩ := h
    rfl
  · obtain ⟨a, b, p, ks, qs, TT, TT', m, m', rfl, h2, k⟩ := h
    have nd := sc_closed_le.nd
    refine ⟨_, (pss_cons (ps_if (pt_not (pt_val (pe_callB call_isi (by rfl) T.z_isinstance (by decide +kernel) (pa_cons (pv 1) (pa_cons (pe_glob (v := .ref T.C) rfl T.mgC rfl) (pa_nil)))))) pss_never pss_nil)
      (pss_cons (ps_expr (pe_call (ok_need_same T) (hr.mono (by decide)) rfl T.m_need_same T.F_need_same.kp T.b_need_same .nil pass0 (pa_cons (pe_fld (pv 0) rfl) (pa_cons (pe_fld (pv 1) rfl) (pa_nil)))))
      (pss_cons (ps_set (i := 2) nd rfl (Or.inl rfl) pe_dnewK)
      (pss_cons (ps_for PassesOwn.never rfl (pi_list (pe_call (ok_met_pairs T) (hr.mono (by decide)) rfl T.m_met_pairs T.F_met_pairs.kp T.b_met_pairs .nil pass0 (pa_cons (pv 0) (pa_cons (pv 1) (pa_nil))))) (pg_tup (by rfl) (pgs_cons (pg_name (i := 3) nd rfl (Or.inl rfl)) (pgs_cons (pg_name (i := 4) nd rfl (Or.inl rfl)) (pgs_nil)))) (pss_one (ps_if (pt_cmpR op_ne (pe_dsetd (pv 2) (pv 3) (pv 4) ⟨rfl, rfl, rfl, rfl⟩) (pv 4) (nomark _)) (pss_one (ps_ret pe_bl)) pss_nil)))
      (pss_one (ps_ret pe_bl)))))), ?_⟩
    have big : sizeLine ≥ 1000000 := by decide
    obtain ⟨dx, t, o, e1, _, _⟩ := id h2.fa
    obtain ⟨dx', t', o', e1', _, _⟩ := id h2.fb
    have hle := le_iff h2.fl h2.fl' h2.pos
    have hml : (met TT TT').length ≤ m * m' := met_len h2.fl h2.fl' h2.pos
    refine ⟨_, rfl, _, _, _, _, true, rfl, .own _, ty_closed T e1', kit_self _, true, rfl, iteF ?_⟩
    refine ⟨_, rfl, a, T.C, dx, _, _, rfl, e1, T.clC, T.noC_plan, rfl, _, rfl, b, T.C, dx', _, _, rfl, e1', T.clC, T.noC_plan, rfl, p, ks, qs, rfl, h2.pl, ?_⟩
    intro d hd
    have s1 : Same H (upd H d (.dK [])) := same_new (Same.refl H) hd
    refine ⟨_, rfl, _, rfl, a, b, p, TT, TT', _, m, m', _, rfl, h2.fa.same s1, h2.fb.same s1, h2.fl, h2.fl', h2.pos, h2.few, h2.sm, fun H2 l s2 hl0 hPl => ?_⟩
    obtain ⟨ts, hl, hts⟩ := hPl
    have hld : l ≠ d := (ne_free (upd_same (H := H) (a := d) (o := .dK [])) hl0).symm
    generalize met TT TT' = L at *
    let Q0 : Hp → Prop := fun H3 => Same H H3 ∧ H3 l = some (.lst (ts.map V.ref)) ∧ PrsAt H3 ts L
    refine ⟨l, rfl, ⟨_, SqL.of hl⟩, for_it (walk_list (xs := ts.map V.ref)) (fun i σ H3 => (∃ x y, σ = [some (.ref a), some (.ref b), some (.ref d), x, y]) ∧ Q0 H3 ∧ ∃ kvs : List (Key × V), H3 d = some (.dK kvs) ∧ kvs.length ≤ i ∧ (∀ j q, j < i → L[j]? = some q → valV kvs (.inl (q.1 : Int)) = some (iv q.2)) ∧ ∀ (x : Nat) v, valV kvs (.inl (x : Int)) = some v → ∃ q, q ∈ L ∧ q.1 = x ∧ v = iv q.2)
      ⟨⟨_, _, rfl⟩, ⟨s1.trans s2, hl, hts⟩, [], s2 _ _ upd_same, by simp, fun j q h => absurd h (Nat.not_lt_zero _), fun x v e => by rw [valV_nil] at e; cases e⟩ (fun _ σ H2 _ h => SqL.of h.2.1.2.1) (fun i x σ H3 H4 hi h y => ?_) (fun σ H3 h => ?_)⟩
    · obtain ⟨⟨ox, oy, rfl⟩, q0, kvs, e2, e3, e4, e5⟩ := h
      obtain ⟨rfl, hx⟩ := y
      obtain ⟨tq, q, rfl, ht1, ht2, ht3⟩ := q0.2.2.get hx
      refine ⟨tq, _, rfl, SqT.of ht3, rfl, _, _, rfl, _, _, rfl, rfl, ?_⟩
      refine ⟨_, rfl, d, rfl, .inl ⟨_, .inl e2⟩, _, rfl, _, rfl, kvs, Sum.inl (q.1 : Int), e2, rfl, ?_, fun v hv => ⟨_, rfl, ?_⟩, fun hv => ⟨_, rfl, rfl, _, rfl, ?_⟩⟩
      · rw [List.length_map, hts.1] at hi
        have := h2.sm
        omega
      · obtain ⟨q', hq1, hq2, rfl⟩ := e5 q.1 v hv
        refine ⟨rfl, _, rfl, ?_⟩
        by_cases e : q'.2 = q.2
        · rw [show (!decide (iv q'.2 = iv q.2)) = false from by rw [e]; simp]
          refine iteF ⟨⟨_, _, rfl⟩, q0, kvs, e2, by omega, fun j z hj hz => ?_, e5⟩
          rcases Nat.lt_or_ge j i with h | h
          · exact e4 j z h hz
          · have : j = i := by omega
            subst this
            rw [ht2] at hz
            cases hz
            rw [hv, e]
        · rw [show (!decide (iv q'.2 = iv q.2)) = true from by
            rw [decide_eq_false (fun h => e (by injection h with h; omega))]; rfl]
          refine iteT (B := _) ?_
          refine k _ false q0.1 ⟨fun h => (by cases h), fun h => ?_⟩
          exact absurd (hle.mpr h q' hq1 q (List.mem_of_getElem? ht2) hq2) e
      · rw [show (!decide (V.int (q.2 : Nat) = V.int (q.2 : Nat))) = false from by simp]
        have hdts : ∀ t ∈ ts, t ≠ d := fun t ht e => by
          obtain ⟨j, hj⟩ := List.mem_iff_getElem?.mp ht
          have hjl : j < L.length := by rw [← q0.2.2.1]; exact (List.getElem?_eq_some_iff.mp hj).1
          have := q0.2.2.2 j t _ hj (List.getElem?_eq_getElem hjl)
          rw [e, e2] at this
          cases this
        refine iteF ⟨⟨_, _, rfl⟩, ⟨same_new q0.1 hd, by rw [upd_ne hld]; exact q0.2.1, q0.2.2.1, fun j t p a b => by rw [upd_ne (hdts t (List.mem_of_getElem? a))]; exact q0.2.2.2 j t p a b⟩, putK kvs (Sum.inl (q.1 : Int)) (iv q.2), upd_same, ?_, fun j z hj hz => ?_, fun x v e => ?_⟩
        · have := length_putK kvs (Sum.inl (q.1 : Int)) (iv q.2)
          omega
        · rw [valV_put]
          rcases Nat.lt_or_ge j i with h | h
          · have h4 := e4 j z h hz
            rw [if_neg (fun e => by rw [e, hv] at h4; cases h4)]
            exact h4
          · have : j = i := by omega
            subst this
            rw [ht2] at hz
            cases hz
            rw [if_pos rfl]
        · rw [valV_put] at e
          by_cases ex : x = q.1
          · subst ex
            rw [if_pos rfl] at e
            exact ⟨q, List.mem_of_getElem? ht2, rfl, (Option.some.inj e).symm⟩
          · rw [if_neg (fun h => by injection h with h; omega)] at e
            exact e5 x v e
    · obtain ⟨⟨ox, oy, rfl⟩, q0, kvs, e2, e3, e4, e5⟩ := h
      refine k _ true q0.1 ⟨fun _ => hle.mp fun u hu v hv e => ?_, fun _ => rfl⟩
      rw [List.length_map, hts.1] at e4
      obtain ⟨j, hj⟩ := List.mem_iff_getElem?.mp hu
      obtain ⟨j', hj'⟩ := List.mem_iff_getElem?.mp hv
      have h1 := e4 j u (List.getElem?_eq_some_iff.mp hj).1 hj
      have h3 := e4 j' v (List.getElem?_eq_some_iff.mp hj').1 hj'
      rw [e, h3] at h1
      have := Option.some.inj h1
      injection this with this
      omega
def spPairFloor (P C : Addr) : Sp := fun vs H Q _ => ∃ (a b p l : Addr) (ks : List Nat) (qs : List (Nat × Nat)) (T T' : Tab) (m m' : Nat), vs = [.ref a, .ref b, .ref l] ∧ Two P C H a b p ks qs T T' m m' ∧ PairsAt H l (met T T') ∧ ∀ H' r, Same H H' → FlAt C H' r p (pairRows T T') (met T T').length → Q (.ref r) H'
theorem ok_pair_floor (T : TF K mg) : FnOk P w K mg base CX0 6 T.f_pair_floor T.d_pair_floor ["one", "other", "pairs"] (spPairFloor T.P T.C) := by
  refine T.F_pair_floor.ok sc_pair_floor (fun vs H Q E h => ?_) (fun cdv A outer s H vs Q E hr h => ?_)
  · obtain ⟨_, _, _, _, _, _, _, _, _, _, rfl, _⟩ := h
    rfl
  · obtain ⟨a, b, p, l, ks, qs, TT, TT', m, m', rfl, h2, ⟨ts, hl, hts⟩, k⟩ := h
    have nd := sc_pair_floor.nd
    refine ⟨_, (pss_cons (ps_set (i := 3) nd rfl (Or.inr rfl) (pe_dg (o := .dT []) (.inr rfl) hr.units0 (own := [("at", 6), ("pair", 5)]) (g := (gTup K 2 (gCons (gName 6) (gCons (gName 5) gNil)))) (tt := tYes) rfl nd (pi_enum rfl T.z_enumerate (pa_cons (pv 2) (pa_nil))) (blkOk_by (own := [("at", 6), ("pair", 5)]) (N := n_pair_floor) (sc := defScope s_pair_floor) (by decide +kernel)) (fun _ _ _ _ _ => (pg_tup (by rfl) (pgs_cons (pg_name (i := 6) nd rfl (by first | exact Or.inl rfl | exact Or.inr rfl)) (pgs_cons (pg_name (i := 5) nd rfl (by first | exact Or.inl rfl | exact Or.inr rfl)) (pgs_nil))))) (fun _ _ _ _ _ => pts_nil) (fun _ _ _ _ _ => (pv 5)) (fun _ _ _ _ _ => (pv 6))))
      (pss_cons (ps_set (i := 4) nd rfl (Or.inr rfl) (pe_lc (own := [("pair", 5)]) (g := (gName 5)) (tt := tYes) rfl nd (pi_list (pv 2)) (blkOk_by (own := [("pair", 5)]) (N := n_pair_floor) (sc := defScope s_pair_floor) (by decide +kernel)) (fun _ _ _ _ _ => (pg_name (i := 5) nd rfl (by first | exact Or.inl rfl | exact Or.inr rfl))) (fun _ _ _ _ _ => pts_nil) (fun _ _ _ _ _ => (pe_call (ok_following_pairs T) (hr.mono (by decide)) rfl T.m_following_pairs T.F_following_pairs.kp T.b_following_pairs .nil pass0 (pa_cons (pv 0) (pa_cons (pv 1) (pa_cons (pv 5) (pa_nil))))))))
      (pss_one (ps_ret (pe_make (mk_C T) (ok_closed_init T) (hr.mono (by decide)) rfl T.mgC T.b_closed_init .nil pass0 (pa_cons (pe_fld (pv 0) rfl) (pa_cons (pe_lc (own := [("at", 6)]) (g := (gName 6)) (tt := tYes) rfl nd (pi_range1 rfl T.z_range (pa_cons (pe_callB call_len_str (by rfl) T.z_len PySem.boot_len (pa_cons (pe_fld (pe_fld (pv 0) rfl) rfl) (pa_nil))) (pa_nil))) (blkOk_by (own := [("at", 6)]) (N := n_pair_floor) (sc := defScope s_pair_floor) (by decide +kernel)) (fun _ _ _ _ _ => (pg_name (i := 6) nd rfl (by first | exact Or.inl rfl | exact Or.inr rfl))) (fun _ _ _ _ _ => pts_nil) (fun _ _ _ _ _ => (pe_lc (own := [("row", 7)]) (g := (gName 7)) (tt := tYes) rfl nd (pi_listK (K := K) (pv 4)) (blkOk_by (own := [("row", 7)]) (N := n_pair_floor) (sc := { kind := .function, names := [(".0", .local), ("at", .cell), ("numbers", .cell), ("rows", .cell)], isGenerator := false, isCoroutine := false }) (by decide +kernel)) (fun _ _ _ _ _ => (pg_name (i := 7) nd rfl (by first | exact Or.inl rfl | exact Or.inr rfl))) (fun _ _ _ _ _ => pts_nil) (fun _ _ _ _ _ => (pe_dget (hu_of hr) (pv 3) (pe_ix (ix_listK (K := K)) (pv 7) (pv 6) (fun _ _ => rfl)) (fun _ _ => rfl)))))) (pa_nil)))))))), ?_⟩
    have big : sizeLine ≥ 1000000 := by decide
    have hml : (met TT TT').length ≤ m * m' := met_len h2.fl h2.fl' h2.pos
    have hnod : (met TT TT').Nodup := met_nodup
    have hlt := fun q hq => met_lt h2.fl h2.fl' h2.pos (p := q) hq
    have hlen : TT.length = TT'.length := h2.fl.len.trans h2.fl'.len.symm
    have hcl : ∀ q ∈ met TT TT', ∀ y ∈ gsucc (msys TT TT') q, y ∈ met TT TT' := by
      rw [met_eq h2.fl h2.fl' h2.pos]
      exact gfound_closed (met_enough h2.fl h2.fl')
    have hpr : ∀ (i : Nat) (f : Nat × Nat → Nat × Nat), (msys TT TT')[i]? = some f → (pairRows TT TT')[i]? = some ((met TT TT').map fun q => @List.idxOf _ instBEqOfDecidableEq (f q) (met TT TT')) := fun i f hf => by
      show ((msys TT TT').map _)[i]? = _
      rw [List.getElem?_map, hf]
      rfl
    obtain ⟨pf, -⟩ := pair_fl h2.fl h2.fl' h2.pos
    have hidx : ∀ j q, (met TT TT')[j]? = some q → @List.idxOf _ instBEqOfDecidableEq q (met TT TT') = j := fun j q hj => by
      obtain ⟨hl, e⟩ := List.getElem?_eq_some_iff.mp hj
      rw [← e]
      exact idx_at hnod hl
    generalize met TT TT' = L at *
    have hsm := h2.sm
    refine ⟨_, rfl, l, _, rfl, SqL.of hl, fun d hd => ?_⟩
    refine dg_it (walk_enum (xs := ts.map V.ref)) (fun i H2 => Same H H2 ∧ ∃ kvs : List (List Key × V), H2 d = some (.dT kvs) ∧ kvs.length ≤ i ∧ ∀ j q, j < i → L[j]? = some q → valV kvs (pkey q) = some (iv j)) ⟨same_new (Same.refl _) hd, [], upd_same, by simp, fun j p h => absurd h (Nat.not_lt_zero _)⟩
      (fun i H2 _ h => SqL.of (h.1 _ _ hl)) (fun i x H2 H3 hi h y => ?_) (fun H2 h => ?_)
    · obtain ⟨s2, kvs, e1, e2, e3⟩ := h
      obtain ⟨Tp, x1, x2, rfl, hTp, rfl, ex1, ex2⟩ := y
      cases ex1
      obtain ⟨tq, q, rfl, ht1, ht2, ht3⟩ := (hts.same s2).get ex2
      rw [List.length_map, hts.1] at hi
      have hdT : d ≠ Tp := ne_free e1 hTp
      have htT : tq ≠ Tp := ne_free ht3 hTp
      refine ⟨Tp, _, rfl, SqT.of upd_same, rfl, _, _, rfl, _, _, rfl, rfl, rfl, _, rfl, _, rfl, _, DPut.t (k := pkey q) (by rw [upd_ne hdT]; exact e1) (by rw [upd_ne htT]; exact ht3) (by omega), same_new (same_new s2 (Same.free s2 hTp)) hd, _, upd_same, ?_, fun j z hj hz => ?_⟩
      · have := length_putK kvs (pkey q) (V.int (i : Nat))
        omega
      · rw [valV_put]
        by_cases e : z = q
        · subst e
          rw [if_pos rfl, ← hidx j z hz, ← hidx i z ht2]
        · rw [if_neg (fun h => e (pkey_inj.mp h))]
          refine e3 j z ?_ hz
          rcases Nat.lt_or_ge j i with h | h
          · exact h
          · have : j = i := by omega
            subst this
            rw [ht2] at hz
            exact absurd (Option.some.inj hz).symm e
    · obtain ⟨s2, kvs, e1, e2, e3⟩ := h
      rw [List.length_map, hts.1] at e3
      have hN : ∀ H3, Same H2 H3 → ∀ b q, q ∈ L → H3 b = some (.tup (pr2 q)) → DGet H3 d (.ref b) (some (iv (@List.idxOf _ instBEqOfDecidableEq q L))) := fun H3 s3 b q hq hb => by
        obtain ⟨j, hj⟩ := List.mem_iff_getElem?.mp hq
        have := e3 j q (List.getElem?_eq_some_iff.mp hj).1 hj
        rw [hidx j q hj, ← this]
        exact DGet.t (k := pkey q) (s3 _ _ e1) hb
      have hl2 := s2 _ _ hl
      refine ⟨_, rfl, l, rfl, ⟨_, SqL.of hl2⟩, fun D hD => lc_rel (walk_list (xs := ts.map V.ref)) (fun i t H => PairsAt H t (gsucc (msys TT TT') (L.getD i (0, 0)))) (fun i t H H' h s => h.same s) (fun i t H xs ys hD htD h => ?_) hD (by rw [List.length_map, hts.1]; omega) (fun H3 s3 => SqL.of (s3 _ _ hl2)) (fun i x H3 H' kk hi s3 hDl y kt => ?_) (fun H3 ls s3 hD3 hn hls => ?_)⟩
      · obtain ⟨us, h1, h3⟩ := h
        refine ⟨us, by rw [upd_ne htD]; exact h1, h3.1, fun j t p a b => ?_⟩
        have := h3.2 j t p a b
        rw [upd_ne (ne_of this hD (by intro z; cases z))]
        exact this
      · obtain ⟨rfl, hx⟩ := y
        obtain ⟨tq, q, rfl, ht1, ht2, ht3⟩ := ((hts.same s2).same s3).get hx
        have hqm := hlt q (List.mem_of_getElem? ht2)
        refine ⟨rfl, _, rfl, _, rfl, _, rfl, a, b, p, tq, TT, TT', m, m', q, rfl, (h2.fa.same s2).same s3, (h2.fb.same s2).same s3, hlen, by rw [h2.fl.len]; exact h2.few, fun row hr => by rw [h2.fl.good.len row hr]; exact hqm.1, fun row hr => by rw [h2.fl'.good.len row hr]; exact hqm.2, ht3, fun H4 l4 s4 hl0 hP4 => kt _ l4 s4 (by rw [getD_of ht2]; exact hP4) ?_⟩
        obtain ⟨xs, hx⟩ := hDl
        exact fun e => by rw [e, hx] at hl0; cases hl0
      · have h23 := h2.same (s2.trans s3)
        obtain ⟨dx, t, o, e1', _, _⟩ := h23.fa
        obtain ⟨_, _, dxp, prr, dd, ep1, ep2⟩ := id h23.pl
        refine ⟨_, rfl, a, T.C, dx, _, _, rfl, e1', T.clC, T.noC_plan, rfl, ?_⟩
        refine ⟨_, rfl, a, T.C, dx, _, _, rfl, e1', T.clC, T.noC_plan, rfl, p, T.P, dxp, _, _, rfl, ep1, T.clP, T.noP_kinds, rfl, txt ks, rfl, ?_, ?_⟩
        · show (txt ks).cps.size ≤ sizeLine
          rw [txt_size]
          have := h2.few
          omega
        have hksl : ((txt ks).length : Int) = (ks.length : Nat) := by
          have : (txt ks).length = ks.length := txt_size ks
          rw [this]
        rw [hksl]
        have hfew := h2.few
        refine ⟨ks.length, rfl, by omega, by omega, fun D5 hD5 => lc_refs (walk_range (lo := 0) (n := ks.length)) (fun i => .lst (((pairRows TT TT').getD i []).map iv)) hD5 (by omega) (fun _ _ => True.intro) (fun i x H5 H6 kk hi s5 hDl y kt => ?_) (fun H5 rs s5 hD5l hn5 hrs => ?_)⟩
        · obtain ⟨rfl, rfl⟩ := y
          have e0 : (0 : Int) + (i : Nat) = (i : Nat) := by omega
          simp only [e0]
          have hi1 : i < (msys TT TT').length := by rw [msys_length hlen, h2.fl.len]; exact hi
          have hfi : (msys TT TT')[i]? = some (msys TT TT')[i] := List.getElem?_eq_getElem hi1
          have hrow := hpr i _ hfi
          generalize (msys TT TT')[i] = f at hfi hrow
          refine ⟨rfl, _, rfl, D, rfl, ⟨_, SqL.of (s5 _ _ hD3)⟩, fun D2 hD2 => lc_fn (walk_list (xs := ls.map V.ref)) (fun _ => true) (fun j => iv (@List.idxOf _ instBEqOfDecidableEq (f (L.getD j (0, 0))) L)) hD2 (by rw [List.length_map, hn, List.length_map, hts.1]; omega) (fun H4 s4 => SqL.of (s4 _ _ (s5 _ _ hD3))) (fun j x H7 H8 kk2 N hj s7 y kt2 _ => ?_) (fun H7 s7 hD7 => ?_)⟩
          · obtain ⟨rfl, hx2⟩ := y
            rw [List.getElem?_map] at hx2
            cases hlj : ls[j]? with
            | none => rw [hlj] at hx2; cases hx2
            | some lj =>
            rw [hlj] at hx2
            cases hx2
            obtain ⟨us, hu1, hu2⟩ := ((hls j lj hlj).same s5).same s7
            have hjL : j < L.length := by
              have := (List.getElem?_eq_some_iff.mp hlj).1
              rw [hn, List.length_map, hts.1] at this
              exact this
            have hq : L.getD j (0, 0) ∈ L := by rw [List.getD_eq_getElem?_getD, List.getElem?_eq_getElem hjL]; exact List.getElem_mem hjL
            have hsu : (gsucc (msys TT TT') (L.getD j (0, 0)))[i]? = some (f (L.getD j (0, 0))) := by
              unfold gsucc
              rw [List.getElem?_map, hfi]
              rfl
            obtain ⟨tu, htu1, htu2⟩ := hu2.at hsu
            have hmem := hcl _ hq _ (List.mem_of_getElem? hsu)
            refine ⟨rfl, _, rfl, _, rfl, _, rfl, lj, _, _, .ref tu, rfl, rfl, SqL.of hu1, atI_nat (by rw [List.getElem?_map, htu1]; rfl), d, _, rfl, hN _ ((s3.trans s5).trans s7) tu _ hmem htu2, kt2 rfl _ (Same.refl _)⟩
          · rw [filter_true fun _ _ => rfl, List.length_map, hn, List.length_map, hts.1, map_range_getD L (0, 0) (fun q => iv (@List.idxOf _ instBEqOfDecidableEq (f q) L))] at hD7
            refine kt _ D2 s7 ?_ ?_
            · rw [hD7, getD_of hrow, List.map_map]
              rfl
            · obtain ⟨xs, hx⟩ := hDl
              exact fun e => by rw [e, hx] at hD2; cases hD2
        · intro x dx0 hx hdx hne
          have sm := made_same (o := .own x) (o' := .ins T.C dx0 []) hx hdx
          have sall := ((s2.trans s3).trans s5)
          refine ⟨x, dx0, p, D5, ks, qs, pairRows TT TT', L.length, rfl, upd_same, (h2.pl.same sall).same sm, ⟨rs, sm _ _ hD5l, by rw [hn5, pf.len], fun j r row a b => ?_⟩, pf.len, h2.pos, h2.few, by omega, pf.good, pf.exch, fun H' n kb hf hn => ⟨rfl, ?_⟩⟩
          · have := hrs j r a
            rw [getD_of b] at this
            exact sm _ _ this
          · rw [pf.canon] at hf hn
            rw [pf.places h2.pos] at hn
            subst hn
            exact k _ x (same_but (sall.trans sm) (Same.free sall hx) kb) hf
def spClosedAnd (P C : Addr) : Sp := fun vs H Q _ => ∃ (a b p : Addr) (ks : List Nat) (qs : List (Nat × Nat)) (T T' : Tab) (m m' : Nat), vs = [.ref a, .ref b] ∧ Two P C H a b p ks qs T T' m m' ∧ ∀ H' r J j, Same H H' → FlAt C H' r p J j → IsMeet ks.length (prsOf ks qs) T T' J j → j ≤ m * m' → Q (.ref r) H'
theorem ok_closed_and (T : TF K mg) : FnOk P w K mg base CX0 7 T.f_closed_and T.d_closed_and ["self", "other"] (spClosedAnd T.P T.C) := by
  refine T.F_closed_and.ok sc_closed_and (fun vs H Q E h => ?_) (fun cdv A outer s H vs Q E hr h => ?_)
  · obtain ⟨_, _, _, _, _, _, _, _, _, rfl, _⟩ := h
    rfl
  · obtain ⟨a, b, p, ks, qs, TT, TT', m, m', rfl, h2, k⟩ := h
    have nd := sc_closed_and.nd
    refine ⟨_, (pss_cons (ps_if (pt_not (pt_val (pe_callB call_isi (by rfl) T.z_isinstance (by decide +kernel) (pa_cons (pv 1) (pa_cons (pe_glob (v := .ref T.C) rfl T.mgC rfl) (pa_nil)))))) pss_never pss_nil)
      (pss_cons (ps_expr (pe_call (ok_need_same T) (hr.mono (by decide)) rfl T.m_need_same T.F_need_same.kp T.b_need_same .nil pass0 (pa_cons (pe_fld (pv 0) rfl) (pa_cons (pe_fld (pv 1) rfl) (pa_nil)))))
      (pss_one (ps_ret (pe_call (ok_pair_floor T) (hr.mono (by decide)) rfl T.m_pair_floor T.F_pair_floor.kp T.b_pair_floor .nil pass0 (pa_cons (pv 0) (pa_cons (pv 1) (pa_cons (pe_call (ok_met_pairs T) (hr.mono (by decide)) rfl T.m_met_pairs T.F_met_pairs.kp T.b_met_pairs .nil pass0 (pa_cons (pv 0) (pa_cons (pv 1) (pa_nil)))) (pa_nil))))))))), ?_⟩
    obtain ⟨dx, t, o, e1, _, _⟩ := id h2.fa
    obtain ⟨dx', t', o', e1', _, _⟩ := id h2.fb
    refine ⟨_, rfl, _, _, _, _, true, rfl, .own _, ty_closed T e1', kit_self _, true, rfl, iteF ?_⟩
    refine ⟨_, rfl, a, T.C, dx, _, _, rfl, e1, T.clC, T.noC_plan, rfl, _, rfl, b, T.C, dx', _, _, rfl, e1', T.clC, T.noC_plan, rfl, p, ks, qs, rfl, h2.pl, ?_⟩
    refine ⟨_, rfl, _, rfl, _, rfl, _, rfl, a, b, p, TT, TT', _, m, m', _, rfl, h2.fa, h2.fb, h2.fl, h2.fl', h2.pos, h2.few, h2.sm, fun H2 l s2 _ hPl => ?_⟩
    obtain ⟨pf, prel⟩ := pair_fl h2.fl h2.fl' h2.pos
    exact ⟨a, b, p, l, ks, qs, TT, TT', m, m', rfl, h2.same s2, hPl, fun H3 r s3 hf => k _ r _ _ (s2.trans s3) hf ⟨pf, prel⟩ (met_len h2.fl h2.fl' h2.pos)⟩
end
end Cw

/-! ## CwL -/
namespace Cw
open PySem PySem.Spec PyProof.Rows L2 CwR
theorem pr2_at {s : Nat} (hs : s < 2) (q : Nat × Nat) : atI (pr2 q) (s : Int) = some (iv (keyOf s q)) := by
  have h : s = 0 ∨ s = 1 := by omega
  rcases h with rfl | rfl
  · exact atI_nat rfl
  · exact atI_nat rfl
theorem dp_ints {K : PySem.W.Frag} {H : Hp} {r : Addr} {row : List Nat} (h : H r = some (.lst (row.map iv))) : Dp K H (.ref r) (.list (row.map fun n : Nat => PyData.int (n : Int))) := by
  refine .lst (SqL.of h) ?_
  clear h
  induction row with
  | nil => exact .nil
  | cons n row ih => exact .cons (.int _) ih
def natOf : V → Nat | .int i => i.toNat | _ => 0
theorem kAt_of {P : List (Nat × Nat)} {s i : Nat} {q : Nat × Nat} (h : P[i]? = some q) : kAt s P i = keyOf s q := by unfold kAt; rw [getD_of h]
section
variable {P : Program} {w : World} {K : PySem.W.Frag} {mg : Str → Option Value} {base : Heap}
def spJointMarks : Sp := fun vs H Q _ => ∃ (l : Addr) (L : List (Nat × Nat)), vs = [.ref l] ∧ PairsAt H l L ∧ L.length ≤ 100000 ∧ ∀ H' r M, Same H H' → H' r = some (.lst (M.map iv)) → Marks L M → Q (.ref r) H'
theorem ok_joint_marks (T : TF K mg) : FnOk P w K mg base CX0 1 T.f_joint_marks T.d_joint_marks ["pairs"] (spJointMarks) := by
  refine T.F_joint_marks.ok sc_joint_marks (fun vs H Q E h => ?_) (fun cdv A outer s H vs Q E hr h => ?_)
  · obtain ⟨_, _, rfl, _⟩ := h
    rfl
  · obtain ⟨l, L, rfl, ⟨ts, hl, hts⟩, hb, k⟩ := h
    have nd := sc_joint_marks.nd
    refine ⟨_, (pss_cons (ps_setLc (own := [("at", 8)]) (g := (gName 8)) (tt := tYes) (i := 1) rfl nd rfl rfl (sw_true rfl rfl rfl (by decide +kernel)) (pi_range1 rfl T.z_range (pa_cons (pe_callB call_len_seq (by rfl) T.z_len PySem.boot_len (pa_cons (pv 0) (pa_nil))) (pa_nil))) (blkOk_by (own := [("at", 8)]) (N := n_joint_marks) (sc := defScope s_joint_marks) (by decide +kernel)) (fun _ _ _ _ _ => (pg_name (i := 8) nd rfl (by first | exact Or.inl rfl | exact Or.inr rfl))) (fun _ _ _ _ _ => pts_nil) (fun _ _ _ _ _ => (pv 8)))
      (pss_cons (ps_set (i := 2) nd rfl (Or.inl rfl) pe_bl)
      (pss_cons (ps_while PassesOwn.never (pt_val (pv 2)) (pss_cons (ps_set (i := 2) nd rfl (Or.inl rfl) pe_bl)
      (pss_one (ps_for PassesOwn.never rfl (pi_tup (pe_tup (pa_cons pe_int (pa_cons pe_int (pa_nil))))) (pg_name (i := 3) nd rfl (Or.inr rfl)) (pss_cons (ps_set (i := 4) nd rfl (Or.inr rfl) pe_dnewK)
      (pss_cons (ps_for PassesOwn.never rfl (pi_zip rfl T.z_zip (pa_cons (pv 1) (pa_cons (pv 0) (pa_nil)))) (pg_tup (by rfl) (pgs_cons (pg_name (i := 5) nd rfl (Or.inl rfl)) (pgs_cons (pg_name (i := 6) nd rfl (Or.inl rfl)) (pgs_nil)))) (pss_one (ps_dput (hu_of hr) (pv 4) (pe_ix ix_tup (pv 6) (pv 3) (fun _ _ => rfl)) (pe_callB (call_min2 rfl) (by rfl) T.z_min (by decide +kernel) (pa_cons (pe_callTy call_int1 (by rfl) T.z_int (by decide +kernel) (pa_cons (pv 5) (pa_nil))) (pa_cons (pe_callTy call_int1 (by rfl) T.z_int (by decide +kernel) (pa_cons (pe_dget2 (hu_of hr) (pv 4) (pe_ix ix_tup (pv 6) (pv 3) (fun _ _ => rfl)) (pv 5) ⟨rfl, rfl, rfl, rfl⟩) (pa_nil))) (pa_nil)))) rfl)))
      (pss_cons (ps_setLc (own := [("pair", 6)]) (g := (gName 6)) (tt := tYes) (i := 7) rfl nd rfl rfl (sw_true rfl rfl rfl (by decide +kernel)) (pi_list (pv 0)) (blkOk_by (own := [("pair", 6)]) (N := n_joint_marks) (sc := defScope s_joint_marks) (by decide +kernel)) (fun _ _ _ _ _ => (pg_name (i := 6) nd rfl (by first | exact Or.inl rfl | exact Or.inr rfl))) (fun _ _ _ _ _ => pts_nil) (fun _ _ _ _ _ => (pe_dget (hu_of hr) (pv 4) (pe_ix (ix_tupK (K := K)) (pv 6) (pv 3) (fun _ _ => rfl)) (fun _ _ => rfl))))
      (pss_cons (ps_set (i := 2) nd rfl (Or.inl rfl) (pe_or (pv 2) (pe_one (pe_cmpR (op_neD hr.units) (pv 7) (pv 1) (nomark _)))))
      (pss_one (ps_set (i := 1) nd rfl (Or.inl rfl) (pv 7)))))))))))
      (pss_one (ps_ret (pv 1)))))), ?_⟩
    have big : sizeLine ≥ 1000000 := by decide
    refine ⟨_, rfl, l, _, rfl, .inl (SqL.of hl), ts.length, by rw [List.length_map], by have := hts.1; omega, by have := hts.1; omega, fun D hD => lc_fn (walk_range (lo := 0) (n := ts.length)) (fun _ => true) (fun i => iv i) hD (by have := hts.1; omega) (fun _ _ => True.intro) (fun i x H3 H' kk N hi s3 y kt _ => ?_) (fun H1 s1 hD1 => ?_)⟩
    · obtain ⟨rfl, rfl⟩ := y
      refine ⟨rfl, _, rfl, ?_⟩
      show kk (V.int (0 + (i : Nat))) _
      rw [Int.zero_add]
      exact kt rfl _ (Same.refl _)
    rw [filter_true fun _ _ => rfl, hts.1] at hD1
    refine ⟨fun μ σ H2 => ∃ M mk c x3 x4 x5 x6 x7 x8, σ = [some (.ref l), some (.ref mk), some (.bl c), x3, x4, x5, x6, x7, x8] ∧ Same H H2 ∧ H2 mk = some (.lst (M.map iv)) ∧ MInv L M ∧ (c = false → IsLow L 0 M M ∧ IsLow L 1 M M) ∧ μ = (if c = true then M.sum + 1 else 0), ⟨_, List.range L.length, D, true, _, _, _, _, _, _, rfl, s1, hD1, minv_start L, fun h => (by cases h), rfl⟩, ?_⟩
    rintro μ σ H2 ⟨M, mk, c, x3, x4, x5, x6, x7, x8, rfl, s2, hmk, hinv, hfin, rfl⟩
    refine ⟨_, rfl, c, rfl, iteB _ (fun hc => ?_) (fun hc => ?_)⟩
    · subst hc
      let N : L2.St → Hp → Prop := fun σ H2 => ∃ M' mk c x3 x4 x5 x6 x7 x8, σ = [some (.ref l), some (.ref mk), some (.bl c), x3, x4, x5, x6, x7, x8] ∧ Same H H2 ∧ H2 mk = some (.lst (M'.map iv)) ∧ MInv L M' ∧ (c = false → IsLow L 0 M' M' ∧ IsLow L 1 M' M') ∧ (c = true → M'.sum < M.sum)
      refine ⟨N, ?_, ?_⟩
      · rintro σ' H' ⟨M', mk, c, x3, x4, x5, x6, x7, x8, e, a1, a2, a3, a4, a5⟩
        refine ⟨_, ?_, M', mk, c, x3, x4, x5, x6, x7, x8, e, a1, a2, a3, a4, rfl⟩
        rw [if_pos rfl]
        cases c
        · simp
        · have := a5 rfl
          simp
          exact this
      refine ⟨by show 2 ≤ sizeLine; omega, fun z hz => ?_⟩
      have sz : Same H2 (upd H2 z (.tup [.int 0, .int 1])) := same_new (Same.refl _) hz
      have hz0 := Same.free s2 hz
      have hzt := upd_same (H := H2) (a := z) (o := HO.tup [.int 0, .int 1])
      generalize upd H2 z (.tup [.int 0, .int 1]) = Hz at sz hzt ⊢
      refine ⟨z, rfl, ⟨_, SqT.of hzt⟩, for_it (walk_tup (xs := [.int 0, .int 1])) (fun i σ H3 => ∃ M' mk c x3 x4 x5 x6 x7 x8, σ = [some (.ref l), some (.ref mk), some (.bl c), x3, x4, x5, x6, x7, x8] ∧ Same Hz H3 ∧ H3 mk = some (.lst (M'.map iv)) ∧ MInv L M' ∧ M'.sum ≤ M.sum ∧ (c = true → M'.sum < M.sum) ∧ (c = false → M' = M ∧ ∀ s', s' < i → IsLow L s' M M))
        ⟨M, mk, false, x3, x4, x5, x6, x7, x8, rfl, Same.refl _, sz _ _ hmk, hinv, Nat.le_refl _, fun h => (by cases h), fun _ => ⟨rfl, fun s' h => absurd h (Nat.not_lt_zero _)⟩⟩ (fun i σ H3 _ h => ?_) (fun i x σ H3 H4 hi h y => ?_) (fun σ H3 h => ?_)⟩
      · obtain ⟨M', mk, c, x3, x4, x5, x6, x7, x8, rfl, a1, _⟩ := h
        exact SqT.of (a1 _ _ hzt)
      · obtain ⟨M', mk', c, y3, y4, y5, y6, y7, y8, rfl, a1, a2, a3, a4, a5, a6⟩ := h
        obtain ⟨rfl, hx⟩ := y
        have hi2 : i < 2 := hi
        have ex : x = iv i := by
          have h : i = 0 ∨ i = 1 := by omega
          rcases h with rfl | rfl
          · exact (Option.some.inj hx).symm
          · exact (Option.some.inj hx).symm
        subst ex
        intro d hd
        have hdz := Same.free a1 hd
        have sH : Same H H4 := (s2.trans sz).trans a1
        have htsH := hts.same sH
        have hlH := sH _ _ hl
        have hML : M'.length = L.length := a3.1
        have sd : Same H4 (upd H4 d (.dK [])) := same_new (Same.refl _) hd
        refine ⟨_, rfl, _, rfl, mk', l, _, _, rfl, SqL.of (sd _ _ a2), SqL.of (sd _ _ hlH), ?_⟩
        refine for_it (walk_zip (xs := M'.map iv) (ys := ts.map V.ref) (n := L.length) (by rw [List.length_map, List.length_map, hts.1, hML]; omega)) (fun kx σ H5 => (∃ u v, σ = [some (.ref l), some (.ref mk'), some (.bl c), some (iv i), some (.ref d), u, v, y7, y8]) ∧ Same H4 H5 ∧ ∃ kvs : List (Key × V), H5 d = some (.dK kvs) ∧ kvs.length ≤ kx ∧
          (∀ (x : Nat) u, valV kvs (.inl (x : Int)) = some u → ∃ v, u = iv v ∧ (∃ j, j < kx ∧ kAt i L j = x ∧ v = M'.getD j 0) ∧ ∀ j, j < kx → kAt i L j = x → v ≤ M'.getD j 0) ∧ ∀ j, j < kx → (valV kvs (.inl ((kAt i L j : Nat) : Int))).isSome = true)
          ⟨⟨_, _, rfl⟩, sd, [], upd_same, by simp, fun x u e => (by rw [valV_nil] at e; cases e), fun j h => absurd h (Nat.not_lt_zero _)⟩ (fun _ σ H5 _ h => ⟨SqL.of (h.2.1 _ _ a2), SqL.of (h.2.1 _ _ hlH)⟩) (fun kx x σ H5 H6 hk h y => ?_) (fun σ H5 h => ?_)
        · obtain ⟨⟨u, v, rfl⟩, b1, kvs, b2, b3, b4, b5⟩ := h
          obtain ⟨Tp, x1, x2, rfl, hTp, rfl, ex1, ex2⟩ := y
          obtain ⟨hk2, rfl⟩ := iv_get ex1
          obtain ⟨tq, q, rfl, ht1, ht2, ht3⟩ := (htsH.same b1).get ex2
          have hka : kAt i L kx = keyOf i q := kAt_of ht2
          have hdT : d ≠ Tp := ne_free b2 hTp
          have htT : tq ≠ Tp := ne_free ht3 hTp
          have ht3' : upd H5 Tp (.tup [iv (M'.getD kx 0), .ref tq]) tq = some (.tup (pr2 q)) := by rw [upd_ne htT]; exact ht3
          have b2' : upd H5 Tp (.tup [iv (M'.getD kx 0), .ref tq]) d = some (.dK kvs) := by rw [upd_ne hdT]; exact b2
          have b1' : Same H4 (upd H5 Tp (.tup [iv (M'.getD kx 0), .ref tq])) := same_new b1 (Same.free b1 hTp)
          refine ⟨Tp, _, rfl, SqT.of upd_same, rfl, _, _, rfl, _, _, rfl, rfl, ?_⟩
          generalize upd H5 Tp (.tup [iv (M'.getD kx 0), .ref tq]) = H6 at ht3' b2' b1' ⊢
          refine ⟨_, rfl, .inl ⟨_, rfl, _, rfl, d, rfl, .inl ⟨_, .inl b2'⟩, _, rfl, _, rfl, tq, _, _, _, rfl, rfl, SqT.of ht3', pr2_at hi2 q, _, rfl, _, DGet.k (k := Sum.inl ((keyOf i q : Nat) : Int)) b2', ?_⟩⟩
          have fin : ∀ nv : Nat, (∃ j, j < kx + 1 ∧ kAt i L j = keyOf i q ∧ nv = M'.getD j 0) → (∀ j, j < kx + 1 → kAt i L j = keyOf i q → nv ≤ M'.getD j 0) →
              (fun kx σ H5 => (∃ u v, σ = [some (.ref l), some (.ref mk'), some (.bl c), some (iv i), some (.ref d), u, v, y7, y8]) ∧ Same H4 H5 ∧ ∃ kvs : List (Key × V), H5 d = some (.dK kvs) ∧ kvs.length ≤ kx ∧
          (∀ (x : Nat) u, valV kvs (.inl (x : Int)) = some u → ∃ v, u = iv v ∧ (∃ j, j < kx ∧ kAt i L j = x ∧ v = M'.getD j 0) ∧ ∀ j, j < kx → kAt i L j = x → v ≤ M'.getD j 0) ∧ ∀ j, j < kx → (valV kvs (.inl ((kAt i L j : Nat) : Int))).isSome = true) (kx + 1)
               [some (.ref l), some (.ref mk'), some (.bl c), some (iv i), some (.ref d), some (iv (M'.getD kx 0)), some (.ref tq), y7, y8] (upd H6 d (.dK (putK kvs (Sum.inl ((keyOf i q : Nat) : Int)) (iv nv)))) := fun nv h1 h2 => by
            refine ⟨⟨_, _, rfl⟩, same_new b1' hd, _, upd_same, ?_, fun x u e => ?_, fun j hj => ?_⟩
            · have := length_putK kvs (Sum.inl ((keyOf i q : Nat) : Int)) (iv nv)
              omega
            · rw [valV_put] at e
              by_cases ex : x = keyOf i q
              · subst ex
                rw [if_pos rfl] at e
                exact ⟨nv, (Option.some.inj e).symm, h1, h2⟩
              · rw [if_neg (fun h => by injection h with h; omega)] at e
                obtain ⟨v, e1, ⟨j, hj, e2, e3⟩, e4⟩ := b4 x u e
                refine ⟨v, e1, ⟨j, by omega, e2, e3⟩, fun j' hj' hk' => ?_⟩
                rcases Nat.lt_or_ge j' kx with h | h
                · exact e4 j' h hk'
                · have : j' = kx := by omega
                  subst this
                  rw [hka] at hk'
                  exact absurd hk'.symm ex
            · rw [valV_put]
              by_cases ex : kAt i L j = keyOf i q
              · rw [if_pos (by rw [ex])]; rfl
              · rw [if_neg (fun h => by injection h with h; omega)]
                rcases Nat.lt_or_ge j kx with h | h
                · exact b5 j h
                · have : j = kx := by omega
                  subst this
                  exact absurd hka ex
          have dput : ∀ nv : Nat, DPut H6 d (iv (keyOf i q)) (iv nv) (upd H6 d (.dK (putK kvs (Sum.inl ((keyOf i q : Nat) : Int)) (iv nv)))) := fun nv => DPut.k (k := Sum.inl ((keyOf i q : Nat) : Int)) b2' (by omega)
          cases hv : valV kvs (Sum.inl ((keyOf i q : Nat) : Int)) with
          | none =>
            refine .inl ⟨_, rfl, _, _, rfl, ?_⟩
            rw [if_neg (Int.lt_irrefl _)]
            refine ⟨_, rfl, _, rfl, _, rfl, tq, _, _, _, rfl, rfl, SqT.of ht3', pr2_at hi2 q, d, _, rfl, dput (M'.getD kx 0), fin _ ⟨kx, by omega, hka, rfl⟩ fun j hj hkj => ?_⟩
            rcases Nat.lt_or_ge j kx with h | h
            · have := b5 j h
              rw [hkj, hv] at this
              cases this
            · have : j = kx := by omega
              subst this
              exact Nat.le_refl _
          | some u =>
            obtain ⟨v, rfl, ⟨j, hj, e2, e3⟩, e4⟩ := b4 _ _ hv
            refine .inl ⟨_, rfl, _, _, rfl, ?_⟩
            by_cases hlt : v < M'.getD kx 0
            · rw [if_pos (by omega)]
              refine ⟨_, rfl, _, rfl, _, rfl, tq, _, _, _, rfl, rfl, SqT.of ht3', pr2_at hi2 q, d, _, rfl, dput v, fin v ⟨j, by omega, e2, e3⟩ fun j' hj' hkj => ?_⟩
              rcases Nat.lt_or_ge j' kx with h | h
              · exact e4 j' h hkj
              · have : j' = kx := by omega
                subst this
                omega
            · rw [if_neg (by omega)]
              refine ⟨_, rfl, _, rfl, _, rfl, tq, _, _, _, rfl, rfl, SqT.of ht3', pr2_at hi2 q, d, _, rfl, dput (M'.getD kx 0), fin _ ⟨kx, by omega, hka, rfl⟩ fun j' hj' hkj => ?_⟩
              rcases Nat.lt_or_ge j' kx with h | h
              · have := e4 j' h hkj
                omega
              · have : j' = kx := by omega
                subst this
                exact Nat.le_refl _
        · obtain ⟨⟨u, v, rfl⟩, b1, kvs, b2, b3, b4, b5⟩ := h
          have hl5 := b1 _ _ hlH
          let Mn : List Nat := (List.range L.length).map fun i' => natOf ((valV kvs (.inl ((kAt i L i' : Nat) : Int))).getD .non)
          have hval : ∀ i', i' < L.length → valV kvs (.inl ((kAt i L i' : Nat) : Int)) = some (iv (Mn.getD i' 0)) ∧ (∃ j, j < L.length ∧ kAt i L j = kAt i L i' ∧ Mn.getD i' 0 = M'.getD j 0) ∧ ∀ j, j < L.length → kAt i L j = kAt i L i' → Mn.getD i' 0 ≤ M'.getD j 0 := fun i' hi' => by
            have h1 := b5 i' hi'
            cases hv : valV kvs (.inl ((kAt i L i' : Nat) : Int)) with
            | none => rw [hv] at h1; cases h1
            | some u =>
              obtain ⟨v, rfl, h3, h4⟩ := b4 _ _ hv
              have : Mn.getD i' 0 = v := by
                show ((List.range L.length).map _).getD i' 0 = v
                rw [List.getD_eq_getElem?_getD, List.getElem?_map, List.getElem?_range hi']
                show natOf ((valV kvs (.inl ((kAt i L i' : Nat) : Int))).getD .non) = v
                rw [hv]
                show Int.toNat (v : Int) = v
                omega
              rw [this]
              exact ⟨rfl, h3, h4⟩
          have hlow : IsLow L i M' Mn := ⟨by show ((List.range L.length).map _).length = _; simp, fun i' hi' => (hval i' hi').2⟩
          have hsum := low_sum hML hlow
          refine ⟨_, rfl, l, rfl, ⟨_, SqL.of hl5⟩, fun D2 hD2 => lc_fn (walk_list (xs := ts.map V.ref)) (fun _ => true) (fun j => iv (Mn.getD j 0)) hD2 (by rw [List.length_map, hts.1]; omega) (fun H7 s7 => SqL.of (s7 _ _ hl5)) (fun j x H7 H8 kk N2 hj s7 y kt _ => ?_) (fun H7 s7 hD7 => ?_)⟩
          · obtain ⟨rfl, hx2⟩ := y
            obtain ⟨tq, q, rfl, ht1, ht2, ht3⟩ := ((htsH.same b1).same s7).get hx2
            rw [List.length_map, hts.1] at hj
            have := (hval j hj).1
            rw [kAt_of ht2] at this
            refine ⟨rfl, _, rfl, _, rfl, _, rfl, tq, _, _, _, rfl, rfl, SqT.of ht3, pr2_at hi2 q, d, _, rfl, ?_, kt rfl _ (Same.refl _)⟩
            rw [← this]
            exact DGet.k (k := Sum.inl ((keyOf i q : Nat) : Int)) (s7 _ _ b2)
          · rw [filter_true fun _ _ => rfl, List.length_map, hts.1, ← hlow.1, map_range_getD Mn 0 iv] at hD7
            have s47 := b1.trans s7
            have hsH7 := a1.trans s47
            have step : ∀ c', (c' = true → Mn.sum < M.sum) → (c' = false → Mn = M ∧ ∀ s', s' < i + 1 → IsLow L s' M M) → (fun i σ H3 => ∃ M' mk c x3 x4 x5 x6 x7 x8, σ = [some (.ref l), some (.ref mk), some (.bl c), x3, x4, x5, x6, x7, x8] ∧ Same Hz H3 ∧ H3 mk = some (.lst (M'.map iv)) ∧ MInv L M' ∧ M'.sum ≤ M.sum ∧ (c = true → M'.sum < M.sum) ∧ (c = false → M' = M ∧ ∀ s', s' < i → IsLow L s' M M)) (i + 1)
                [some (.ref l), some (.ref D2), some (.bl c'), some (iv i), some (.ref d), u, v, some (.ref D2), y8] H7 := fun c' h1 h2 => ⟨Mn, D2, c', _, _, _, _, _, _, rfl, hsH7, hD7, a3.low hlow, by have := hsum.1; omega, h1, h2⟩
            refine ⟨_, rfl, c, rfl, iteB _ (fun hc => ?_) (fun hc => ?_)⟩
            · refine ⟨_, rfl, step true (fun _ => ?_) (fun h => by cases h)⟩
              have := a5 hc
              have := hsum.1
              omega
            · obtain ⟨e6, l6⟩ := a6 hc
              refine ⟨_, rfl, _, rfl, _, _, dp_ints hD7, dp_ints (s47 _ _ a2), (shaped_flat (ints_lay _)).2, (shaped_flat (ints_lay _)).2, ?_⟩
              rw [PyData.eqv, eqvAll_ints]
              refine ⟨_, rfl, ?_⟩
              by_cases e : Mn = M'
              · rw [show (!decide (Mn = M')) = false from by simp [e]]
                refine step false (fun h => by cases h) (fun _ => ⟨e.trans e6, fun s' hs' => ?_⟩)
                rcases Nat.lt_or_ge s' i with h | h
                · exact l6 s' h
                · have : s' = i := by omega
                  subst this
                  rw [e, e6] at hlow
                  exact hlow
              · rw [show (!decide (Mn = M')) = true from by simp [e]]
                refine step true (fun _ => ?_) (fun h => by cases h)
                have := hsum.2 e
                omega
      · obtain ⟨M', mk', c, y3, y4, y5, y6, y7, y8, rfl, a1, a2, a3, a4, a5, a6⟩ := h
        refine ⟨M', mk', c, _, _, _, _, _, _, rfl, (s2.trans sz).trans a1, a2, a3, fun hc => ?_, a5⟩
        obtain ⟨e, hl⟩ := a6 hc
        rw [e]
        exact ⟨hl 0 (by show 0 < 2; omega), hl 1 (by show 1 < 2; omega)⟩
    · subst hc
      obtain ⟨l0, l1⟩ := hfin rfl
      exact ⟨_, rfl, k _ mk M s2 hmk (marks_done hinv l0 l1)⟩
end
end Cw

/-! ## CwM -/
namespace Cw
open PySem PySem.Spec PyProof.Rows L2 CwR
/-- the numbers of the marks that have been seen -/
def NumOf (kvs : List (Key × V)) (A : List Nat) : Prop := kvs.length = A.length ∧ ∀ x : Nat, valV kvs (.inl (x : Int)) = if x ∈ A then some (iv (A.idxOf x)) else none
theorem numOf_add {kvs : List (Key × V)} {A : List Nat} {y : Nat} (h : NumOf kvs A) (hy : ¬ y ∈ A) : NumOf (putK kvs (.inl (y : Int)) (iv kvs.length)) (A ++ [y]) := by
  have hn : valV kvs (.inl (y : Int)) = none := by rw [h.2, if_neg hy]
  refine ⟨by rw [putK_new _ hn, List.length_append, List.length_append, h.1]; rfl, fun x => ?_⟩
  rw [valV_put, List.idxOf_append]
  by_cases e : x = y
  · subst e
    rw [if_pos rfl, if_pos (by simp), if_neg hy, h.1]
    simp
  · rw [if_neg (fun q => by injection q with q; omega), h.2]
    by_cases hx : x ∈ A
    · rw [if_pos hx, if_pos (by simp [hx]), if_pos hx]
    · rw [if_neg hx, if_neg (by simp [hx, e])]
theorem val_cls {kvs : List (Key × V)} {M : List Nat} (h : NumOf kvs (addAll [] M)) {i : Nat} (hi : i < M.length) : valV kvs (.inl ((M.getD i 0 : Nat) : Int)) = some (iv (cls M i)) := by
  rw [h.2, if_pos (addAll_nil_mem.mpr (getD_mem hi))]
  rfl
section
variable {P : Program} {w : World} {K : PySem.W.Frag} {mg : Str → Option Value} {base : Heap}
def spMergedRow : Sp := fun vs H Q _ => ∃ (r mk : Addr) (row M : List Nat), vs = [.ref r, .ref mk] ∧ H r = some (.tup (row.map iv)) ∧ H mk = some (.lst (M.map iv)) ∧ row.length = M.length ∧ M.length ≤ 100000 ∧ (∀ i, i < M.length → row.getD i 0 < M.length) ∧ (∀ i j, i < M.length → j < M.length → M.getD i 0 = M.getD j 0 → M.getD (row.getD i 0) 0 = M.getD (row.getD j 0) 0) ∧
  ∀ H' l R, Same H H' → H l = none → H' l = some (.lst (R.map iv)) → MergedRow row M R → Q (.ref l) H'
theorem ok_merged_row (T : TF K mg) : FnOk P w K mg base CX0 1 T.f_merged_row T.d_merged_row ["row", "marks"] (spMergedRow) := by
  refine T.F_merged_row.ok sc_merged_row (fun vs H Q E h => ?_) (fun cdv A outer s H vs Q E hr h => ?_)
  · obtain ⟨_, _, _, _, rfl, _⟩ := h
    rfl
  · obtain ⟨r, mk, row, M, rfl, hrow, hmk, hlen, hb, hent, hcong, k⟩ := h
    have nd := sc_merged_row.nd
    refine ⟨_, (pss_cons (ps_set (i := 2) nd rfl (Or.inl rfl) pe_dnewK)
      (pss_cons (ps_for PassesOwn.never rfl (pi_list (pv 1)) (pg_name (i := 3) nd rfl (Or.inl rfl)) (pss_one (ps_expr (pe_dsetd (pv 2) (pv 3) (pe_callB call_lenD (by rfl) T.z_len PySem.boot_len (pa_cons (pv 2) (pa_nil))) ⟨rfl, rfl, rfl, rfl⟩))))
      (pss_cons (ps_set (i := 4) nd rfl (Or.inr rfl) pe_dnewK)
      (pss_cons (ps_for PassesOwn.never rfl (pi_enumT rfl T.z_enumerate (pa_cons (pv 0) (pa_nil))) (pg_tup (by rfl) (pgs_cons (pg_name (i := 5) nd rfl (Or.inl rfl)) (pgs_cons (pg_name (i := 6) nd rfl (Or.inl rfl)) (pgs_nil)))) (pss_one (ps_dput (hu_of hr) (pv 4) (pe_dget (hu_of hr) (pv 2) (pe_ix ix_list (pv 1) (pv 5) (fun _ _ => rfl)) (fun _ _ => rfl)) (pe_dget (hu_of hr) (pv 2) (pe_ix ix_list (pv 1) (pv 6) (fun _ _ => rfl)) (fun _ _ => rfl)) rfl)))
      (pss_one (ps_ret (pe_lc (own := [("at", 7)]) (g := (gName 7)) (tt := tYes) rfl nd (pi_range1 rfl T.z_range (pa_cons (pe_callB call_lenD (by rfl) T.z_len PySem.boot_len (pa_cons (pv 2) (pa_nil))) (pa_nil))) (blkOk_by (own := [("at", 7)]) (N := n_merged_row) (sc := defScope s_merged_row) (by decide +kernel)) (fun _ _ _ _ _ => (pg_name (i := 7) nd rfl (by first | exact Or.inl rfl | exact Or.inr rfl))) (fun _ _ _ _ _ => pts_nil) (fun _ _ _ _ _ => (pe_dget (hu_of hr) (pv 4) (pv 7) (fun _ _ => rfl)))))))))), ?_⟩
    have big : sizeLine ≥ 1000000 := by decide
    intro d hd
    have sd : Same H (upd H d (.dK [])) := same_new (Same.refl _) hd
    refine ⟨_, rfl, mk, rfl, ⟨_, SqL.of (sd _ _ hmk)⟩, for_it (walk_list (xs := M.map iv)) (fun i σ H2 => (∃ x, σ = [some (.ref r), some (.ref mk), some (.ref d), x, none, none, none, none]) ∧ Same H H2 ∧ ∃ kvs : List (Key × V), H2 d = some (.dK kvs) ∧ NumOf kvs (addAll [] (M.take i)) ∧ kvs.length ≤ i)
      ⟨⟨_, rfl⟩, sd, [], upd_same, ⟨rfl, fun x => by rw [valV_nil]; rfl⟩, Nat.le_refl _⟩ (fun _ σ H2 _ h => SqL.of (h.2.1 _ _ hmk)) (fun i x σ H2 H3 hi h y => ?_) (fun σ H2 h => ?_)⟩
    · obtain ⟨⟨x0, rfl⟩, s2, kvs, e1, e2, e3⟩ := h
      obtain ⟨rfl, hx⟩ := y
      obtain ⟨hi2, rfl⟩ := iv_get hx
      have etk : M.take (i + 1) = M.take i ++ [M.getD i 0] := by
        rw [List.take_add_one, List.getElem?_eq_getElem hi2]
        simp [List.getD_eq_getElem?_getD, List.getElem?_eq_getElem hi2]
      rw [etk, addAll_snoc]
      generalize addAll [] (M.take i) = A at e2
      refine ⟨_, rfl, d, rfl, .inl ⟨_, .inl e1⟩, _, rfl, _, rfl, d, kvs, rfl, e1, kvs, Sum.inl ((M.getD i 0 : Nat) : Int), e1, rfl, by omega, fun v hv => ?_, fun hv => ?_⟩
      · have hA : M.getD i 0 ∈ A := by
          rw [e2.2] at hv
          by_cases h : M.getD i 0 ∈ A
          · exact h
          · rw [if_neg h] at hv; cases hv
        rw [if_pos hA]
        exact ⟨⟨_, rfl⟩, s2, kvs, e1, e2, by omega⟩
      · have hA : ¬ M.getD i 0 ∈ A := fun h => by
          rw [e2.2, if_pos h] at hv
          cases hv
        rw [if_neg hA]
        refine ⟨⟨_, rfl⟩, same_new s2 hd, _, upd_same, numOf_add e2 hA, ?_⟩
        have := length_putK kvs (Sum.inl ((M.getD i 0 : Nat) : Int)) (V.int (kvs.length : Nat))
        omega
    · obtain ⟨⟨x0, rfl⟩, s2, kvs, e1, e2, e3⟩ := h
      rw [List.length_map] at e3
      rw [List.length_map, List.take_of_length_le (Nat.le_refl _)] at e2
      intro d2 hd2
      have hdd : d ≠ d2 := ne_free e1 hd2
      have hd20 := Same.free s2 hd2
      have sd2 : Same H2 (upd H2 d2 (.dK [])) := same_new (Same.refl _) hd2
      have hr2 := s2 _ _ hrow
      have hm2 := s2 _ _ hmk
      refine ⟨_, rfl, r, _, rfl, SqT.of (sd2 _ _ hr2), for_it walk_itp (fun i σ H3 => (∃ x y, σ = [some (.ref r), some (.ref mk), some (.ref d), x0, some (.ref d2), x, y, none]) ∧ Same H2 H3 ∧ ∃ kv2 : List (Key × V), H3 d2 = some (.dK kv2) ∧ kv2.length ≤ i ∧ ∀ j, j < i → valV kv2 (.inl ((cls M j : Nat) : Int)) = some (iv (cls M (row.getD j 0))))
        ⟨⟨_, _, rfl⟩, sd2, [], upd_same, Nat.le_refl _, fun j h => absurd h (Nat.not_lt_zero _)⟩ (fun _ σ H3 _ h => SqT.of (h.2.1 _ _ hr2)) (fun i x σ H3 H4 hi h y => ?_) (fun σ H3 h => ?_)⟩
      · obtain ⟨⟨x1, x2, rfl⟩, s3, kv2, f1, f2, f3⟩ := h
        obtain ⟨Tp, y1, y2, rfl, hTp, rfl, ex1, ex2⟩ := y
        cases ex1
        obtain ⟨hi2, rfl⟩ := iv_get ex2
        have hiM : i < M.length := by omega
        have hent' := hent i hiM
        have s4 : Same H2 (upd H3 Tp (.tup [.int (i : Nat), iv (row.getD i 0)])) := same_new s3 (Same.free s3 hTp)
        have f1' : upd H3 Tp (.tup [.int (i : Nat), iv (row.getD i 0)]) d2 = some (.dK kv2) := by rw [upd_ne (ne_free f1 hTp)]; exact f1
        refine ⟨Tp, _, rfl, SqT.of upd_same, rfl, _, _, rfl, _, _, rfl, rfl, ?_⟩
        generalize upd H3 Tp (.tup [.int (i : Nat), iv (row.getD i 0)]) = H4 at s4 f1' ⊢
        have g1 : DGet H4 d (iv (M.getD (row.getD i 0) 0)) (some (iv (cls M (row.getD i 0)))) := by
          rw [← val_cls e2 hent']
          exact DGet.k (k := Sum.inl ((M.getD (row.getD i 0) 0 : Nat) : Int)) (s4 _ _ e1)
        have g2 : DGet H4 d (iv (M.getD i 0)) (some (iv (cls M i))) := by
          rw [← val_cls e2 hiM]
          exact DGet.k (k := Sum.inl ((M.getD i 0 : Nat) : Int)) (s4 _ _ e1)
        refine ⟨_, rfl, _, rfl, _, rfl, mk, _, _, _, rfl, rfl, SqL.of (s4 _ _ hm2), iv_at hent', d, _, rfl, g1, _, rfl, _, rfl, _, rfl, _, rfl, mk, _, _, _, rfl, rfl, SqL.of (s4 _ _ hm2), iv_at hiM, d, _, rfl, g2, d2, _, rfl, DPut.k (k := Sum.inl ((cls M i : Nat) : Int)) f1' (by rw [List.length_map] at hi; omega), ⟨_, _, rfl⟩, same_new s4 hd2, _, upd_same, ?_, fun j hj => ?_⟩
        · have := length_putK kv2 (Sum.inl ((cls M i : Nat) : Int)) (iv (cls M (row.getD i 0)))
          omega
        · rw [valV_put]
          have hjM : j < M.length := by omega
          by_cases e : cls M j = cls M i
          · rw [if_pos (by rw [e])]
            have h1 := hcong j i hjM hiM ((cls_eq hjM hiM).mp e)
            rw [(cls_eq (hent j hjM) hent').mpr h1]
          · rw [if_neg (fun q => by injection q with q; omega)]
            rcases Nat.lt_or_ge j i with h | h
            · exact f3 j h
            · have : j = i := by omega
              subst this
              exact absurd rfl e
      · obtain ⟨⟨x1, x2, rfl⟩, s3, kv2, f1, f2, f3⟩ := h
        rw [List.length_map, hlen] at f3
        have hkl : kvs.length = (addAll [] M).length := e2.1
        have hAl : (addAll [] M).length ≤ 100000 := by omega
        let R : List Nat := (List.range (addAll [] M).length).map fun c : Nat => natOf ((valV kv2 (.inl (c : Int))).getD .non)
        have hR : ∀ i, i < M.length → R.getD (cls M i) 0 = cls M (row.getD i 0) := fun i hi => by
          show ((List.range (addAll [] M).length).map _).getD (cls M i) 0 = _
          rw [List.getD_eq_getElem?_getD, List.getElem?_map, List.getElem?_range (cls_lt hi)]
          show natOf ((valV kv2 (.inl ((cls M i : Nat) : Int))).getD .non) = _
          rw [f3 i hi]
          show Int.toNat ((cls M (row.getD i 0) : Nat) : Int) = _
          omega
        refine ⟨_, rfl, d, kvs, rfl, s3 _ _ e1, (addAll [] M).length, by rw [hkl], by omega, by omega, fun D hD => lc_fn (walk_range (lo := 0) (n := (addAll [] M).length)) (fun _ => true) (fun c => iv (R.getD c 0)) hD (by omega) (fun _ _ => True.intro) (fun c x H5 H6 kk N hc s5 y kt _ => ?_) (fun H5 s5 hD5 => ?_)⟩
        · obtain ⟨rfl, rfl⟩ := y
          have e0 : (0 : Int) + (c : Nat) = (c : Nat) := by omega
          simp only [e0]
          obtain ⟨i, hi, rfl⟩ := cls_onto hc
          refine ⟨rfl, _, rfl, _, rfl, d2, iv (cls M (row.getD i 0)), rfl, ?_, ?_⟩
          · rw [← f3 i hi]
            exact DGet.k (k := Sum.inl ((cls M i : Nat) : Int)) (s5 _ _ f1)
          · have := kt rfl _ (Same.refl _)
            rw [hR i hi] at this
            exact this
        · have hRl : R.length = (addAll [] M).length := by show ((List.range (addAll [] M).length).map _).length = _; simp
          rw [filter_true fun _ _ => rfl, ← hRl, map_range_getD R 0 iv] at hD5
          exact k _ D R ((s2.trans s3).trans s5) (Same.free (s2.trans s3) hD) hD5 ⟨hRl, hR⟩
def spClosedOr (P C : Addr) : Sp := fun vs H Q _ => ∃ (a b p : Addr) (ks : List Nat) (qs : List (Nat × Nat)) (T T' : Tab) (m m' : Nat), vs = [.ref a, .ref b] ∧ Two P C H a b p ks qs T T' m m' ∧ ∀ H' r J j, Same H H' → FlAt C H' r p J j → IsJoin ks.length (prsOf ks qs) T T' J j → Q (.ref r) H'
theorem ok_closed_or (T : TF K mg) : FnOk P w K mg base CX0 7 T.f_closed_or T.d_closed_or ["self", "other"] (spClosedOr T.P T.C) := by
  refine T.F_closed_or.ok sc_closed_or (fun vs H Q E h => ?_) (fun cdv A outer s H vs Q E hr h => ?_)
  · obtain ⟨_, _, _, _, _, _, _, _, _, rfl, _⟩ := h
    rfl
  · obtain ⟨a, b, p, ks, qs, TT, TT', m, m', rfl, h2, k⟩ := h
    have nd := sc_closed_or.nd
    refine ⟨_, (pss_cons (ps_if (pt_not (pt_val (pe_callB call_isi (by rfl) T.z_isinstance (by decide +kernel) (pa_cons (pv 1) (pa_cons (pe_glob (v := .ref T.C) rfl T.mgC rfl) (pa_nil)))))) pss_never pss_nil)
      (pss_cons (ps_expr (pe_call (ok_need_same T) (hr.mono (by decide)) rfl T.m_need_same T.F_need_same.kp T.b_need_same .nil pass0 (pa_cons (pe_fld (pv 0) rfl) (pa_cons (pe_fld (pv 1) rfl) (pa_nil)))))
      (pss_cons (ps_set (i := 2) nd rfl (Or.inl rfl) (pe_call (ok_met_pairs T) (hr.mono (by decide)) rfl T.m_met_pairs T.F_met_pairs.kp T.b_met_pairs .nil pass0 (pa_cons (pv 0) (pa_cons (pv 1) (pa_nil)))))
      (pss_cons (ps_set (i := 3) nd rfl (Or.inl rfl) (pe_call (ok_pair_floor T) (hr.mono (by decide)) rfl T.m_pair_floor T.F_pair_floor.kp T.b_pair_floor .nil pass0 (pa_cons (pv 0) (pa_cons (pv 1) (pa_cons (pv 2) (pa_nil))))))
      (pss_cons (ps_set (i := 4) nd rfl (Or.inr rfl) (pe_call (ok_joint_marks T) (hr.mono (by decide)) rfl T.m_joint_marks T.F_joint_marks.kp T.b_joint_marks .nil pass0 (pa_cons (pv 2) (pa_nil))))
      (pss_one (ps_ret (pe_make (mk_C T) (ok_closed_init T) (hr.mono (by decide)) rfl T.mgC T.b_closed_init .nil pass0 (pa_cons (pe_fld (pv 0) rfl) (pa_cons (pe_lc (own := [("row", 5)]) (g := (gName 5)) (tt := tYes) rfl nd (pi_tup (pe_fld (pv 3) rfl)) (blkOk_by (own := [("row", 5)]) (N := n_closed_or) (sc := defScope s_closed_or) (by decide +kernel)) (fun _ _ _ _ _ => (pg_name (i := 5) nd rfl (by first | exact Or.inl rfl | exact Or.inr rfl))) (fun _ _ _ _ _ => pts_nil) (fun _ _ _ _ _ => (pe_call (ok_merged_row T) (hr.mono (by decide)) rfl T.m_merged_row T.F_merged_row.kp T.b_merged_row .nil pass0 (pa_cons (pv 5) (pa_cons (pv 4) (pa_nil)))))) (pa_nil))))))))))), ?_⟩
    have big : sizeLine ≥ 1000000 := by decide
    obtain ⟨dx, t, o, e1, _, _⟩ := id h2.fa
    obtain ⟨dx', t', o', e1', _, _⟩ := id h2.fb
    have hml : (met TT TT').length ≤ m * m' := met_len h2.fl h2.fl' h2.pos
    have hsm := h2.sm
    have hfew := h2.few
    refine ⟨_, rfl, _, _, _, _, true, rfl, .own _, ty_closed T e1', kit_self _, true, rfl, iteF ?_⟩
    refine ⟨_, rfl, a, T.C, dx, _, _, rfl, e1, T.clC, T.noC_plan, rfl, _, rfl, b, T.C, dx', _, _, rfl, e1', T.clC, T.noC_plan, rfl, p, ks, qs, rfl, h2.pl, ?_⟩
    refine ⟨_, rfl, _, rfl, a, b, p, TT, TT', _, m, m', _, rfl, h2.fa, h2.fb, h2.fl, h2.fl', h2.pos, h2.few, h2.sm, fun H2 l s2 _ hPl => ?_⟩
    refine ⟨_, rfl, _, rfl, _, rfl, a, b, p, l, ks, qs, TT, TT', m, m', rfl, h2.same s2, hPl, fun H3 r s3 hf => ?_⟩
    refine ⟨_, rfl, l, met TT TT', rfl, hPl.same s3, by omega, fun H4 mk M s4 hmk hM => ?_⟩
    obtain ⟨pf, prel⟩ := pair_fl h2.fl h2.fl' h2.pos
    obtain ⟨dxr, tr, orr, er1, ⟨rs, er2, ers⟩, _⟩ := hf.same s4
    have s24 := (s2.trans s3).trans s4
    obtain ⟨dx4, t4, o4, e4, _, _⟩ := (h2.fa.same s24)
    refine ⟨_, rfl, a, T.C, dx4, _, _, rfl, e4, T.clC, T.noC_plan, rfl, ?_⟩
    refine ⟨_, rfl, r, T.C, dxr, _, _, rfl, er1, T.clC, T.noC_tables, rfl, tr, rfl, ⟨_, SqT.of er2⟩, fun D hD => ?_⟩
    refine lc_rel (walk_tup (xs := rs.map V.ref)) (fun i t H => ∃ R, MergedRow ((pairRows TT TT').getD i []) M R ∧ H t = some (.lst (R.map iv))) (fun i t H H' h s => ?_) (fun i t H xs ys hD htD h => ?_) hD (by rw [List.length_map, ers.1, pf.len]; omega) (fun H5 s5 => SqT.of (s5 _ _ er2)) (fun i x H5 H6 kk hi s5 hDl y kt => ?_) (fun H5 ls s5 hD5 hn hls => ?_)
    · obtain ⟨R, h1, h3⟩ := h
      exact ⟨R, h1, s _ _ h3⟩
    · obtain ⟨R, h1, h3⟩ := h
      exact ⟨R, h1, by rw [upd_ne htD]; exact h3⟩
    · obtain ⟨rfl, hx⟩ := y
      obtain ⟨rr, row, rfl, hr1, hr2, hr3⟩ := (ers.same s5).row hx
      have hrm := List.mem_of_getElem? hr2
      have hrl := pf.good.len row hrm
      refine ⟨rfl, _, rfl, _, rfl, rr, mk, row, M, rfl, hr3, s5 _ _ hmk, by rw [hrl, hM.1], by rw [hM.1]; omega, fun j hj => by rw [hM.1] at hj ⊢; exact pf.good.ent row hrm j hj, fun u v hu hv e => ?_, fun H7 l7 R s7 hl0 hl7 hR => kt _ l7 s7 ⟨R, by rw [getD_of hr2]; exact hR, hl7⟩ ?_⟩
      · rw [hM.1] at hu hv
        have := join_cong h2.fl h2.fl' h2.pos hM i u v hu hv e
        rw [step_some hr2, step_some hr2] at this
        exact this
      · obtain ⟨xs, hx⟩ := hDl
        exact fun e => by rw [e, hx] at hl0; cases hl0
    · rw [List.length_map, ers.1, pf.len] at hn
      have hch : ∀ i, i < ks.length → ∃ R, MergedRow ((pairRows TT TT').getD i []) M R ∧ ∀ t, ls[i]? = some t → H5 t = some (.lst (R.map iv)) := fun i hi => by
        obtain ⟨t, ht⟩ : ∃ t, ls[i]? = some t := ⟨_, List.getElem?_eq_getElem (by rw [hn]; exact hi)⟩
        obtain ⟨R, h1, h3⟩ := hls i t ht
        exact ⟨R, h1, fun t' ht' => by rw [ht] at ht'; cases ht'; exact h3⟩
      let T2 : Tab := (List.range ks.length).map fun i => if hi : i < ks.length then Classical.choose (hch i hi) else []
      have hT2l : T2.length = ks.length := by show ((List.range ks.length).map _).length = _; simp
      have hT2 : ∀ i R, T2[i]? = some R → MergedRow ((pairRows TT TT').getD i []) M R ∧ ∀ t, ls[i]? = some t → H5 t = some (.lst (R.map iv)) := fun i R hR => by
        have hi : i < ks.length := by rw [← hT2l]; exact (List.getElem?_eq_some_iff.mp hR).1
        have e : T2[i]? = some (Classical.choose (hch i hi)) := by
          show ((List.range ks.length).map _)[i]? = _
          rw [List.getElem?_map, List.getElem?_range hi]
          show some (if hi : i < ks.length then Classical.choose (hch i hi) else []) = _
          rw [dif_pos hi]
        rw [hR] at e
        rw [Option.some.inj e]
        exact Classical.choose_spec (hch i hi)
      have hmg : Merged (pairRows TT TT') M T2 := ⟨hT2l.trans pf.len.symm, fun kx row R h1 h3 => by
        have := (hT2 kx R h3).1
        rw [getD_of h1] at this
        exact this⟩
      obtain ⟨g2, x2, rel2⟩ := join_ok h2.fl h2.fl' h2.pos hM hmg
      obtain ⟨fl2, rel3⟩ := num_fl h2.pos hT2l g2 x2
      have hcl : (addAll [] M).length ≤ 100000 := by
        have : (addAll [] M).length ≤ M.length := nodup_sub_length (addAll_nodup List.nodup_nil) fun x hx => addAll_nil_mem.mp hx
        have := hM.1
        omega
      intro x dx0 hx hdx hne
      have sm := made_same (o := .own x) (o' := .ins T.C dx0 []) hx hdx
      have sall := s24.trans s5
      refine ⟨x, dx0, p, D, ks, qs, T2, (addAll [] M).length, rfl, upd_same, (h2.pl.same sall).same sm, ⟨ls, sm _ _ hD5, by rw [hn, hT2l], fun j rr row a b => sm _ _ ((hT2 j row b).2 rr a)⟩, hT2l, h2.pos, h2.few, hcl, g2, x2, fun H' n kb hf hn => ⟨rfl, ?_⟩⟩
      rw [fl2.places h2.pos] at hn
      subst hn
      exact k _ x _ _ (same_but (sall.trans sm) (Same.free sall hx) kb) hf ⟨fl2, fun u v => (rel3 u v).trans (rel2 u v)⟩
end
end Cw

/-! ## CwN -/
namespace Cw
open PySem PySem.Spec PyProof.Rows L2 CwR
section
variable {P : Program} {w : World} {K : PySem.W.Frag} {mg : Str → Option Value} {base : Heap}
/-- a plan of few kinds -/
structure Pl (T : TF K mg) (H : Hp) (p : Addr) (ks : List Nat) (qs : List (Nat × Nat)) : Prop where
  pl : PlanAt T.P H p ks qs
  pos : 0 < ks.length
  few : ks.length ≤ 26
theorem Pl.same {T : TF K mg} {H H' : Hp} {p : Addr} {ks : List Nat} {qs : List (Nat × Nat)} (h : Pl T H p ks qs) (s : Same H H') : Pl T H' p ks qs := ⟨h.pl.same s, h.pos, h.few⟩
/-- a floor of at most N places over it -/
def Flo (T : TF K mg) (p : Addr) (ks : List Nat) (qs : List (Nat × Nat)) (N : Nat) (H : Hp) (a : Addr) (S : Tab) : Prop := ∃ m, FlAt T.C H a p S m ∧ Fl ks.length (prsOf ks qs) S m ∧ m ≤ N
section
variable {T : TF K mg} {p : Addr} {ks : List Nat} {qs : List (Nat × Nat)} {H : Hp} {a b : Addr} {S S' : Tab} {N N' : Nat} {Q : VK} {E : XK}
theorem Flo.same {H' : Hp} (h : Flo T p ks qs N H a S) (s : Same H H') : Flo T p ks qs N H' a S := by
  obtain ⟨m, h1, h2, h3⟩ := h
  exact ⟨m, h1.same s, h2, h3⟩
theorem Flo.ext (pos : 0 < ks.length) (f : Flo T p ks qs N H a S) {H' : Hp} (f' : Flo T p ks qs N' H' b S') (h : ∀ u v, Rel S u v ↔ Rel S' u v) : S = S' := by
  obtain ⟨m, _, h2, _⟩ := f
  obtain ⟨m', _, h2', _⟩ := f'
  exact h2.ext h2' h pos
theorem two_of (pl : Pl T H p ks qs) (f : Flo T p ks qs N H a S) (f' : Flo T p ks qs N' H b S') (hN : N * N' ≤ 100000) : ∃ m m', Two T.P T.C H a b p ks qs S S' m m' ∧ m ≤ N ∧ m' ≤ N' := by
  obtain ⟨m, h1, h2, h3⟩ := f
  obtain ⟨m', h1', h2', h3'⟩ := f'
  exact ⟨m, m', ⟨pl.pl, h1, h1', h2, h2', pl.pos, pl.few, Nat.le_trans (Nat.mul_le_mul h3 h3') hN⟩, h3, h3'⟩
theorem use_and (pl : Pl T H p ks qs) (f : Flo T p ks qs N H a S) (f' : Flo T p ks qs N' H b S') (hN : N * N' ≤ 100000)
    (k : ∀ H' r J, Same H H' → Flo T p ks qs (N * N') H' r J → (∀ u v, Rel J u v ↔ Rel S u v ∧ Rel S' u v) → Q (.ref r) H') : rOwn T.C (spClosedAnd T.P T.C) E (.ref a) (.ref b) H Q := by
  obtain ⟨m, m', t, hm, hm'⟩ := two_of pl f f' hN
  obtain ⟨dx, _, _, e1, _⟩ := id t.fa
  obtain ⟨dx', _, _, e1', _⟩ := id t.fb
  exact ⟨a, dx, _, b, dx', _, rfl, rfl, e1, e1', a, b, p, ks, qs, S, S', m, m', rfl, t, fun H' r J j s hf hM hj => k H' r J s ⟨j, hf, hM.fl, Nat.le_trans hj (Nat.mul_le_mul hm hm')⟩ hM.rel⟩
theorem use_or (pl : Pl T H p ks qs) (f : Flo T p ks qs N H a S) (f' : Flo T p ks qs N' H b S') (hN : N * N' ≤ 100000)
    (k : ∀ H' r J, Same H H' → Flo T p ks qs N H' r J → (∀ u v, Rel J u v ↔ Join S S' u v) → Q (.ref r) H') : rOwn T.C (spClosedOr T.P T.C) E (.ref a) (.ref b) H Q := by
  obtain ⟨m, m', t, hm, hm'⟩ := two_of pl f f' hN
  obtain ⟨dx, _, _, e1, _⟩ := id t.fa
  obtain ⟨dx', _, _, e1', _⟩ := id t.fb
  exact ⟨a, dx, _, b, dx', _, rfl, rfl, e1, e1', a, b, p, ks, qs, S, S', m, m', rfl, t, fun H' r J j s hf hM => k H' r J s ⟨j, hf, hM.fl, Nat.le_trans (t.fl.fewer hM.fl fun u v h => (hM.rel u v).mpr (Join.inl h)) hm⟩ hM.rel⟩
theorem use_le (pl : Pl T H p ks qs) (f : Flo T p ks qs N H a S) (f' : Flo T p ks qs N' H b S') (hN : N * N' ≤ 100000)
    (k : ∀ H' c, Same H H' → (c = true ↔ Le S S') → Q (.bl c) H') : rOwn T.C (spClosedLe T.P T.C) E (.ref a) (.ref b) H Q := by
  obtain ⟨m, m', t, hm, hm'⟩ := two_of pl f f' hN
  obtain ⟨dx, _, _, e1, _⟩ := id t.fa
  obtain ⟨dx', _, _, e1', _⟩ := id t.fb
  exact ⟨a, dx, _, b, dx', _, rfl, rfl, e1, e1', a, b, p, ks, qs, S, S', m, m', rfl, t, k⟩
theorem use_eq (pl : Pl T H p ks qs) (f : Flo T p ks qs N H a S) (f' : Flo T p ks qs N' H b S') (k : Q (.bl (decide (S = S'))) H) : rOwn T.C (spClosedEq T.P T.C) E (.ref a) (.ref b) H Q := by
  obtain ⟨m, h1, h2, h3⟩ := f
  obtain ⟨m', h1', h2', h3'⟩ := f'
  obtain ⟨dx, _, _, e1, _⟩ := id h1
  obtain ⟨dx', _, _, e1', _⟩ := id h1'
  exact ⟨a, dx, _, b, dx', _, rfl, rfl, e1, e1', a, b, p, ks, qs, S, S', m, m', rfl, pl.pl, h1, h1', k⟩
theorem use_len (f : Flo T p ks qs N H a S) (hN : N ≤ 100000) (k : ∀ m, Fl ks.length (prsOf ks qs) S m → Q (iv m) H) : rLenOwn T.C (spClosedLen T.C) E [.ref a] H Q := by
  obtain ⟨m, h1, h2, h3⟩ := f
  obtain ⟨dx, _, _, e1, _⟩ := id h1
  exact ⟨a, dx, _, rfl, e1, a, p, S, m, rfl, h1, (m : Int), rfl, by omega, by omega, k m h2⟩
end
/-- three floors -/
structure B3 (T : TF K mg) (p : Addr) (ks : List Nat) (qs : List (Nat × Nat)) (H : Hp) (a b c : Addr) (A B C : Tab) : Prop where
  pl : Pl T H p ks qs
  f1 : Flo T p ks qs 10 H a A
  f2 : Flo T p ks qs 10 H b B
  f3 : Flo T p ks qs 10 H c C
theorem B3.same {T : TF K mg} {p : Addr} {ks : List Nat} {qs : List (Nat × Nat)} {H H' : Hp} {a b c : Addr} {A B C : Tab} (h : B3 T p ks qs H a b c A B C) (s : Same H H') : B3 T p ks qs H' a b c A B C := ⟨h.pl.same s, h.f1.same s, h.f2.same s, h.f3.same s⟩
def spIsOrder (T : TF K mg) : Sp := fun vs H Q _ => ∃ (p : Addr) (ks : List Nat) (qs : List (Nat × Nat)) (a b c : Addr) (A B C : Tab), vs = [.ref a, .ref b, .ref c] ∧ B3 T p ks qs H a b c A B C ∧ ∀ H', Same H H' → Q (.bl true) H'
theorem with_rest {G : Prop} {A R : Hp → Prop} (h : (∀ H', A H' → R H') → G) (r : ∀ H', A H' → R H') : G := h r
theorem not_true {c : Bool} (h : c = true) : (!c) = false := by rw [h]; rfl
theorem ok_law_is_order (T : TF K mg) : FnOk P w K mg base CX0 8 T.f_law_is_order T.d_law_is_order ["_law_one", "_law_two", "_law_three"] (spIsOrder T) := by
  refine T.F_law_is_order.ok sc_law_is_order (fun vs H Q E h => ?_) (fun cdv A outer s H vs Q E hr h => ?_)
  · obtain ⟨_, _, _, _, _, _, _, _, _, rfl, _⟩ := h
    rfl
  · obtain ⟨p, ks, qs, a, b, c, SA, SB, SC, rfl, hb, k⟩ := h
    have nd := sc_law_is_order.nd
    refine ⟨_, (pss_cons (ps_if (PW.pt (pw_or (pt_not (pt_cmpR (op_cmpOwn (op := .LtE) (fun _ _ => rfl) T.nfC T.m_closed_le T.i_closed_le (ok_closed_le T) (hr.mono (by decide)) T.b_closed_le pass0) (pe_op (op_binOwn (op := .BitAnd) T.sfC T.m_closed_and T.i_closed_and (ok_closed_and T) (hr.mono (by decide)) T.b_closed_and pass0) (pv 0) (pv 1)) (pv 0) (nomark _))) (pw_or (pt_not (pt_cmpR (op_cmpOwn (op := .LtE) (fun _ _ => rfl) T.nfC T.m_closed_le T.i_closed_le (ok_closed_le T) (hr.mono (by decide)) T.b_closed_le pass0) (pv 0) (pe_op (op_binOwn (op := .BitOr) T.sfC T.m_closed_or T.i_closed_or (ok_closed_or T) (hr.mono (by decide)) T.b_closed_or pass0) (pv 0) (pv 1)) (nomark _))) (pw_or (pt_not (pt_cmpR (op_cmpOwn (op := .Eq) (fun _ _ => rfl) T.nfC T.m_closed_eq T.i_closed_eq (ok_closed_eq T) (hr.mono (by decide)) T.b_closed_eq pass0) (pe_op (op_binOwn (op := .BitAnd) T.sfC T.m_closed_and T.i_closed_and (ok_closed_and T) (hr.mono (by decide)) T.b_closed_and pass0) (pv 0) (pv 1)) (pe_op (op_binOwn (op := .BitAnd) T.sfC T.m_closed_and T.i_closed_and (ok_closed_and T) (hr.mono (by decide)) T.b_closed_and pass0) (pv 1) (pv 0)) (nomark _))) (pw_or1 (pt_not (pt_cmpR (op_cmpOwn (op := .Eq) (fun _ _ => rfl) T.nfC T.m_closed_eq T.i_closed_eq (ok_closed_eq T) (hr.mono (by decide)) T.b_closed_eq pass0) (pe_op (op_binOwn (op := .BitOr) T.sfC T.m_closed_or T.i_closed_or (ok_closed_or T) (hr.mono (by decide)) T.b_closed_or pass0) (pv 0) (pv 1)) (pe_op (op_binOwn (op := .BitOr) T.sfC T.m_closed_or T.i_closed_or (ok_closed_or T) (hr.mono (by decide)) T.b_closed_or pass0) (pv 1) (pv 0)) (nomark _)))))))) (pss_one (ps_ret pe_bl)) pss_nil)
      (pss_cons (ps_if (PW.pt (pw_or (pt_not (pt_cmpR (op_cmpOwn (op := .Eq) (fun _ _ => rfl) T.nfC T.m_closed_eq T.i_closed_eq (ok_closed_eq T) (hr.mono (by decide)) T.b_closed_eq pass0) (pe_op (op_binOwn (op := .BitAnd) T.sfC T.m_closed_and T.i_closed_and (ok_closed_and T) (hr.mono (by decide)) T.b_closed_and pass0) (pe_op (op_binOwn (op := .BitAnd) T.sfC T.m_closed_and T.i_closed_and (ok_closed_and T) (hr.mono (by decide)) T.b_closed_and pass0) (pv 0) (pv 1)) (pv 2)) (pe_op (op_binOwn (op := .BitAnd) T.sfC T.m_closed_and T.i_closed_and (ok_closed_and T) (hr.mono (by decide)) T.b_closed_and pass0) (pv 0) (pe_op (op_binOwn (op := .BitAnd) T.sfC T.m_closed_and T.i_closed_and (ok_closed_and T) (hr.mono (by decide)) T.b_closed_and pass0) (pv 1) (pv 2))) (nomark _))) (pw_or1 (pt_not (pt_cmpR (op_cmpOwn (op := .Eq) (fun _ _ => rfl) T.nfC T.m_closed_eq T.i_closed_eq (ok_closed_eq T) (hr.mono (by decide)) T.b_closed_eq pass0) (pe_op (op_binOwn (op := .BitOr) T.sfC T.m_closed_or T.i_closed_or (ok_closed_or T) (hr.mono (by decide)) T.b_closed_or pass0) (pe_op (op_binOwn (op := .BitOr) T.sfC T.m_closed_or T.i_closed_or (ok_closed_or T) (hr.mono (by decide)) T.b_closed_or pass0) (pv 0) (pv 1)) (pv 2)) (pe_op (op_binOwn (op := .BitOr) T.sfC T.m_closed_or T.i_closed_or (ok_closed_or T) (hr.mono (by decide)) T.b_closed_or pass0) (pv 0) (pe_op (op_binOwn (op := .BitOr) T.sfC T.m_closed_or T.i_closed_or (ok_closed_or T) (hr.mono (by decide)) T.b_closed_or pass0) (pv 1) (pv 2))) (nomark _)))))) (pss_one (ps_ret pe_bl)) pss_nil)
      (pss_cons (ps_if (PW.pt (pw_or (pt_not (pt_cmpR (op_cmpOwn (op := .Eq) (fun _ _ => rfl) T.nfC T.m_closed_eq T.i_closed_eq (ok_closed_eq T) (hr.mono (by decide)) T.b_closed_eq pass0) (pe_op (op_binOwn (op := .BitAnd) T.sfC T.m_closed_and T.i_closed_and (ok_closed_and T) (hr.mono (by decide)) T.b_closed_and pass0) (pv 0) (pe_op (op_binOwn (op := .BitOr) T.sfC T.m_closed_or T.i_closed_or (ok_closed_or T) (hr.mono (by decide)) T.b_closed_or pass0) (pv 0) (pv 1))) (pv 0) (nomark _))) (pw_or1 (pt_not (pt_cmpR (op_cmpOwn (op := .Eq) (fun _ _ => rfl) T.nfC T.m_closed_eq T.i_closed_eq (ok_closed_eq T) (hr.mono (by decide)) T.b_closed_eq pass0) (pe_op (op_binOwn (op := .BitOr) T.sfC T.m_closed_or T.i_closed_or (ok_closed_or T) (hr.mono (by decide)) T.b_closed_or pass0) (pv 0) (pe_op (op_binOwn (op := .BitAnd) T.sfC T.m_closed_and T.i_closed_and (ok_closed_and T) (hr.mono (by decide)) T.b_closed_and pass0) (pv 0) (pv 1))) (pv 0) (nomark _)))))) (pss_one (ps_ret pe_bl)) pss_nil)
      (pss_cons (ps_if (PW.pt (pw_or (pt_cmpR op_ne (pe_cmpR (op_cmpOwn (op := .LtE) (fun _ _ => rfl) T.nfC T.m_closed_le T.i_closed_le (ok_closed_le T) (hr.mono (by decide)) T.b_closed_le pass0) (pv 0) (pv 1) (nomark _)) (pe_cmpR (op_cmpOwn (op := .Eq) (fun _ _ => rfl) T.nfC T.m_closed_eq T.i_closed_eq (ok_closed_eq T) (hr.mono (by decide)) T.b_closed_eq pass0) (pe_op (op_binOwn (op := .BitAnd) T.sfC T.m_closed_and T.i_closed_and (ok_closed_and T) (hr.mono (by decide)) T.b_closed_and pass0) (pv 0) (pv 1)) (pv 0) (nomark _)) (nomark _)) (pw_or1 (pt_cmpR op_ne (pe_cmpR (op_cmpOwn (op := .LtE) (fun _ _ => rfl) T.nfC T.m_closed_le T.i_closed_le (ok_closed_le T) (hr.mono (by decide)) T.b_closed_le pass0) (pv 0) (pv 1) (nomark _)) (pe_cmpR (op_cmpOwn (op := .Eq) (fun _ _ => rfl) T.nfC T.m_closed_eq T.i_closed_eq (ok_closed_eq T) (hr.mono (by decide)) T.b_closed_eq pass0) (pe_op (op_binOwn (op := .BitOr) T.sfC T.m_closed_or T.i_closed_or (ok_closed_or T) (hr.mono (by decide)) T.b_closed_or pass0) (pv 0) (pv 1)) (pv 1) (nomark _)) (nomark _))))) (pss_one (ps_ret pe_bl)) pss_nil)
      (pss_cons (ps_if (PW.pt (pw_and (pt_cmpR (op_cmpOwn (op := .LtE) (fun _ _ => rfl) T.nfC T.m_closed_le T.i_closed_le (ok_closed_le T) (hr.mono (by decide)) T.b_closed_le pass0) (pv 0) (pv 1) (nomark _)) (pw_and (pt_cmpR (op_cmpOwn (op := .LtE) (fun _ _ => rfl) T.nfC T.m_closed_le T.i_closed_le (ok_closed_le T) (hr.mono (by decide)) T.b_closed_le pass0) (pv 1) (pv 2) (nomark _)) (pw_and1 (pt_not (pt_cmpR (op_cmpOwn (op := .LtE) (fun _ _ => rfl) T.nfC T.m_closed_le T.i_closed_le (ok_closed_le T) (hr.mono (by decide)) T.b_closed_le pass0) (pv 0) (pv 2) (nomark _))))))) (pss_one (ps_ret pe_bl)) pss_nil)
      (pss_cons (ps_if (PW.pt (pw_and (pt_cmpR (op_cmpOwn (op := .LtE) (fun _ _ => rfl) T.nfC T.m_closed_le T.i_closed_le (ok_closed_le T) (hr.mono (by decide)) T.b_closed_le pass0) (pv 2) (pv 0) (nomark _)) (pw_and (pt_cmpR (op_cmpOwn (op := .LtE) (fun _ _ => rfl) T.nfC T.m_closed_le T.i_closed_le (ok_closed_le T) (hr.mono (by decide)) T.b_closed_le pass0) (pv 2) (pv 1) (nomark _)) (pw_and1 (pt_not (pt_cmpR (op_cmpOwn (op := .LtE) (fun _ _ => rfl) T.nfC T.m_closed_le T.i_closed_le (ok_closed_le T) (hr.mono (by decide)) T.b_closed_le pass0) (pv 2) (pe_op (op_binOwn (op := .BitAnd) T.sfC T.m_closed_and T.i_closed_and (ok_closed_and T) (hr.mono (by decide)) T.b_closed_and pass0) (pv 0) (pv 1)) (nomark _))))))) (pss_one (ps_ret pe_bl)) pss_nil)
      (pss_cons (ps_if (PW.pt (pw_and (pt_cmpR (op_cmpOwn (op := .LtE) (fun _ _ => rfl) T.nfC T.m_closed_le T.i_closed_le (ok_closed_le T) (hr.mono (by decide)) T.b_closed_le pass0) (pv 0) (pv 2) (nomark _)) (pw_and (pt_cmpR (op_cmpOwn (op := .LtE) (fun _ _ => rfl) T.nfC T.m_closed_le T.i_closed_le (ok_closed_le T) (hr.mono (by decide)) T.b_closed_le pass0) (pv 1) (pv 2) (nomark _)) (pw_and1 (pt_not (pt_cmpR (op_cmpOwn (op := .LtE) (fun _ _ => rfl) T.nfC T.m_closed_le T.i_closed_le (ok_closed_le T) (hr.mono (by decide)) T.b_closed_le pass0) (pe_op (op_binOwn (op := .BitOr) T.sfC T.m_closed_or T.i_closed_or (ok_closed_or T) (hr.mono (by decide)) T.b_closed_or pass0) (pv 0) (pv 1)) (pv 2) (nomark _))))))) (pss_one (ps_ret pe_bl)) pss_nil)
      (pss_one (ps_ret (pe_and (pe_cmpR op_eq (pe_and (pe_cmpR (op_cmpOwn (op := .LtE) (fun _ _ => rfl) T.nfC T.m_closed_le T.i_closed_le (ok_closed_le T) (hr.mono (by decide)) T.b_closed_le pass0) (pv 0) (pv 1) (nomark _)) (pe_one (pe_cmpR (op_cmpOwn (op := .LtE) (fun _ _ => rfl) T.nfC T.m_closed_le T.i_closed_le (ok_closed_le T) (hr.mono (by decide)) T.b_closed_le pass0) (pv 1) (pv 0) (nomark _)))) (pe_cmpR (op_cmpOwn (op := .Eq) (fun _ _ => rfl) T.nfC T.m_closed_eq T.i_closed_eq (ok_closed_eq T) (hr.mono (by decide)) T.b_closed_eq pass0) (pv 0) (pv 1) (nomark _)) (nomark _)) (pe_one (pe_chain op_ge op_ge (pe_callB (call_lenOwn T.m_closed_len T.i_closed_len (ok_closed_len T) (hr.mono (by decide)) T.b_closed_len pass0) (by rfl) T.z_len PySem.boot_len (pa_cons (pe_op (op_binOwn (op := .BitAnd) T.sfC T.m_closed_and T.i_closed_and (ok_closed_and T) (hr.mono (by decide)) T.b_closed_and pass0) (pv 0) (pv 1)) (pa_nil))) (pe_callB (call_lenOwn T.m_closed_len T.i_closed_len (ok_closed_len T) (hr.mono (by decide)) T.b_closed_len pass0) (by rfl) T.z_len PySem.boot_len (pa_cons (pv 0) (pa_nil))) (pe_callB (call_lenOwn T.m_closed_len T.i_closed_len (ok_closed_len T) (hr.mono (by decide)) T.b_closed_len pass0) (by rfl) T.z_len PySem.boot_len (pa_cons (pe_op (op_binOwn (op := .BitOr) T.sfC T.m_closed_or T.i_closed_or (ok_closed_or T) (hr.mono (by decide)) T.b_closed_or pass0) (pv 0) (pv 1)) (pa_nil))))))))))))))), ?_⟩
    have pos := hb.pl.pos
    have lower : ∀ {J X Y : Tab}, (∀ u v, Rel J u v ↔ Rel X u v ∧ Rel Y u v) → Le J X := fun h u v r => ((h u v).mp r).1
    have upper : ∀ {J X Y : Tab}, (∀ u v, Rel J u v ↔ Join X Y u v) → Le X J := fun h u v r => (h u v).mpr (Join.inl r)
    have upper2 : ∀ {J X Y : Tab}, (∀ u v, Rel J u v ↔ Join X Y u v) → Le Y J := fun h u v r => (h u v).mpr (Join.inr r)
    have ofJ : ∀ {J X Y S : Tab}, (∀ u v, Rel J u v ↔ Join X Y u v) → Le X S → Le Y S → Le J S := fun h h1 h2 u v r => ((h u v).mp r).le h1 h2
    have ssH : Same H H := Same.refl H
    -- the first test
    refine ⟨_, rfl, _, rfl, use_and hb.pl hb.f1 hb.f2 (by decide) (fun H1 r1 J1 s1 g1 e1 => ⟨_, rfl, use_le (hb.pl.same s1) g1 (hb.f1.same s1) (by decide) (fun H2 c2 s2 i2 => ⟨c2, rfl, ?_⟩)⟩)⟩
    obtain rfl : c2 = true := i2.mpr (lower e1)
    refine iteF ?_
    have b2 := (hb.same s1).same s2
    have S2 := s1.trans s2
    clear s1 s2 g1 e1 i2
    refine ⟨_, rfl, _, rfl, _, rfl, use_or b2.pl b2.f1 b2.f2 (by decide) (fun H3 r3 J3 s3 g3 e3 => use_le (b2.pl.same s3) (b2.f1.same s3) g3 (by decide) (fun H4 c4 s4 i4 => ⟨c4, rfl, ?_⟩))⟩
    obtain rfl : c4 = true := i4.mpr (upper e3)
    refine iteF ?_
    have b4 := (b2.same s3).same s4
    have S4 := (S2.trans s3).trans s4
    clear s3 s4 g3 e3 i4 b2 S2
    refine ⟨_, rfl, _, rfl, use_and b4.pl b4.f1 b4.f2 (by decide) (fun H5 r5 J5 s5 g5 e5 => ⟨_, rfl, _, rfl, use_and (b4.pl.same s5) (b4.f2.same s5) (b4.f1.same s5) (by decide) (fun H6 r6 J6 s6 g6 e6 => use_eq ((b4.pl.same s5).same s6) (g5.same s6) g6 ?_)⟩)⟩
    refine ⟨true, congrArg V.bl (decide_eq_true (g5.ext pos g6 fun u v => by rw [e5, e6]; exact And.comm)), ?_⟩
    refine iteF ?_
    have b6 := (b4.same s5).same s6
    have S6 := (S4.trans s5).trans s6
    clear s5 s6 g5 e5 g6 e6 b4 S4
    refine ⟨_, rfl, _, rfl, use_or b6.pl b6.f1 b6.f2 (by decide) (fun H7 r7 J7 s7 g7 e7 => ⟨_, rfl, _, rfl, use_or (b6.pl.same s7) (b6.f2.same s7) (b6.f1.same s7) (by decide) (fun H8 r8 J8 s8 g8 e8 => use_eq ((b6.pl.same s7).same s8) (g7.same s8) g8 ?_)⟩)⟩
    refine ⟨true, congrArg V.bl (decide_eq_true (g7.ext pos g8 fun u v => by rw [e7, e8]; exact ⟨Join.symmArg, Join.symmArg⟩)), ?_⟩
    refine iteF ?_
    have b8 := (b6.same s7).same s8
    have S8 := (S6.trans s7).trans s8
    clear s7 s8 g7 e7 g8 e8 b6 S6
    -- the second test
    refine ⟨_, rfl, _, rfl, use_and b8.pl b8.f1 b8.f2 (by decide) (fun H9 r9 J9 s9 g9 e9 => ⟨_, rfl, use_and (b8.pl.same s9) g9 (b8.f3.same s9) (by decide) (fun H10 r10 J10 s10 g10 e10 => ⟨_, rfl, _, rfl, _, rfl, ?_⟩)⟩)⟩
    have b10 := (b8.same s9).same s10
    refine use_and b10.pl b10.f2 b10.f3 (by decide) (fun H11 r11 J11 s11 g11 e11 => use_and (b10.pl.same s11) (b10.f1.same s11) g11 (by decide) (fun H12 r12 J12 s12 g12 e12 => use_eq ((b10.pl.same s11).same s12) ((g10.same s11).same s12) g12 ?_))
    refine ⟨true, congrArg V.bl (decide_eq_true (g10.ext pos g12 fun u v => by rw [e10, e9, e12, e11]; exact and_assoc)), ?_⟩
    refine iteF ?_
    have b12 := (b10.same s11).same s12
    have S12 := (((S8.trans s9).trans s10).trans s11).trans s12
    clear s9 s10 s11 s12 g9 e9 g10 e10 g11 e11 g12 e12 b8 b10 S8
    refine ⟨_, rfl, _, rfl, use_or b12.pl b12.f1 b12.f2 (by decide) (fun H13 r13 J13 s13 g13 e13 => ⟨_, rfl, use_or (b12.pl.same s13) g13 (b12.f3.same s13) (by decide) (fun H14 r14 J14 s14 g14 e14 => ⟨_, rfl, _, rfl, _, rfl, ?_⟩)⟩)⟩
    have b14 := (b12.same s13).same s14
    refine use_or b14.pl b14.f2 b14.f3 (by decide) (fun H15 r15 J15 s15 g15 e15 => use_or (b14.pl.same s15) (b14.f1.same s15) g15 (by decide) (fun H16 r16 J16 s16 g16 e16 => use_eq ((b14.pl.same s15).same s16) ((g14.same s15).same s16) g16 ?_))
    refine ⟨true, congrArg V.bl (decide_eq_true (g14.ext pos g16 fun u v => ⟨fun r => ofJ e14 (ofJ e13 (upper e16) fun u v r => upper2 e16 u v (upper e15 u v r)) (fun u v r => upper2 e16 u v (upper2 e15 u v r)) u v r, fun r => ofJ e16 (fun u v r => upper e14 u v (upper e13 u v r)) (ofJ e15 (fun u v r => upper e14 u v (upper2 e13 u v r)) (upper2 e14)) u v r⟩)), ?_⟩
    refine iteF ?_
    have b16 := (b14.same s15).same s16
    have S16 := (((S12.trans s13).trans s14).trans s15).trans s16
    clear s13 s14 s15 s16 g13 e13 g14 e14 g15 e15 g16 e16 b12 b14 S12
    -- the third test
    refine ⟨_, rfl, _, rfl, _, rfl, use_or b16.pl b16.f1 b16.f2 (by decide) (fun H17 r17 J17 s17 g17 e17 => use_and (b16.pl.same s17) (b16.f1.same s17) g17 (by decide) (fun H18 r18 J18 s18 g18 e18 => ⟨_, rfl, use_eq ((b16.pl.same s17).same s18) g18 ((b16.f1.same s17).same s18) ?_⟩))⟩
    refine ⟨true, congrArg V.bl (decide_eq_true (g18.ext pos b16.f1 fun u v => ⟨lower e18 u v, fun r => (e18 u v).mpr ⟨r, upper e17 u v r⟩⟩)), ?_⟩
    refine iteF ?_
    have b18 := (b16.same s17).same s18
    have S18 := (S16.trans s17).trans s18
    clear s17 s18 g17 e17 g18 e18 b16 S16
    refine ⟨_, rfl, _, rfl, _, rfl, use_and b18.pl b18.f1 b18.f2 (by decide) (fun H19 r19 J19 s19 g19 e19 => use_or (b18.pl.same s19) (b18.f1.same s19) g19 (by decide) (fun H20 r20 J20 s20 g20 e20 => ⟨_, rfl, use_eq ((b18.pl.same s19).same s20) g20 ((b18.f1.same s19).same s20) ?_⟩))⟩
    refine ⟨true, congrArg V.bl (decide_eq_true (g20.ext pos b18.f1 fun u v => ⟨ofJ e20 (fun u v r => r) (lower e19) u v, upper e20 u v⟩)), ?_⟩
    refine iteF ?_
    have b20 := (b18.same s19).same s20
    have S20 := (S18.trans s19).trans s20
    clear s19 s20 g19 e19 g20 e20 b18 S18
    -- the fourth test
    refine ⟨_, rfl, _, rfl, use_le b20.pl b20.f1 b20.f2 (by decide) (fun H21 c21 s21 i21 => ⟨_, rfl, _, rfl, use_and (b20.pl.same s21) (b20.f1.same s21) (b20.f2.same s21) (by decide) (fun H22 r22 J22 s22 g22 e22 => ⟨_, rfl, use_eq ((b20.pl.same s21).same s22) g22 ((b20.f1.same s21).same s22) ⟨rfl, false, ?_, ?_⟩⟩)⟩)⟩
    · have : c21 = decide (J22 = SA) := by
        apply Bool.eq_iff_iff.mpr
        rw [i21, decide_eq_true_iff]
        constructor
        · intro h
          exact g22.ext pos b20.f1 fun u v => ⟨lower e22 u v, fun r => (e22 u v).mpr ⟨r, h u v r⟩⟩
        · intro h u v r
          rw [← h] at r
          exact ((e22 u v).mp r).2
      rw [this]
      simp
    refine iteF ?_
    have b22 := (b20.same s21).same s22
    have S22 := (S20.trans s21).trans s22
    clear s21 s22 g22 e22 i21 b20 S20
    refine ⟨_, rfl, _, rfl, use_le b22.pl b22.f1 b22.f2 (by decide) (fun H23 c23 s23 i23 => ⟨_, rfl, _, rfl, use_or (b22.pl.same s23) (b22.f1.same s23) (b22.f2.same s23) (by decide) (fun H24 r24 J24 s24 g24 e24 => ⟨_, rfl, use_eq ((b22.pl.same s23).same s24) g24 ((b22.f2.same s23).same s24) ⟨rfl, false, ?_, ?_⟩⟩)⟩)⟩
    · have : c23 = decide (J24 = SB) := by
        apply Bool.eq_iff_iff.mpr
        rw [i23, decide_eq_true_iff]
        constructor
        · intro h
          exact g24.ext pos b22.f2 fun u v => ⟨ofJ e24 h (fun u v r => r) u v, upper2 e24 u v⟩
        · intro h u v r
          rw [← h]
          exact upper e24 u v r
      rw [this]
      simp
    refine iteF ?_
    have b24 := (b22.same s23).same s24
    have S24 := (S22.trans s23).trans s24
    clear s23 s24 g24 e24 i23 b22 S22
    -- the last expression
    have last : ∀ H', Same H H' → B3 T p ks qs H' a b c SA SB SC → (tRet (tAndV (tOp rEq (tAndV (tOp (rOwn T.C (spClosedLe T.P T.C) E0) (tVar 0) (tVar 1)) (tOp (rOwn T.C (spClosedLe T.P T.C) E0) (tVar 1) (tVar 0))) (tOp (rOwn T.C (spClosedEq T.P T.C) E0) (tVar 0) (tVar 1)))
        (tChain (rI0 fun i j => .bl (decide (j ≤ i))) (rI0 fun i j => .bl (decide (j ≤ i))) (tCB (rLenOwn T.C (spClosedLen T.C) E0) (tCons (tOp (rOwn T.C (spClosedAnd T.P T.C) E0) (tVar 0) (tVar 1)) tNil)) (tCB (rLenOwn T.C (spClosedLen T.C) E0) (tCons (tVar 0) tNil)) (tCB (rLenOwn T.C (spClosedLen T.C) E0) (tCons (tOp (rOwn T.C (spClosedOr T.P T.C) E0) (tVar 0) (tVar 1)) tNil)))))
        { nx := fun x H' => Q V.non H', rt := Q } (L2.start n_law_is_order [V.ref a, V.ref b, V.ref c]) H' := fun H' S b' => by
      have fin : ∀ H' c1, Same H H' → B3 T p ks qs H' a b c SA SB SC → (c1 = true ↔ SA = SB) → rEq (.bl c1) (.bl (decide (SA = SB))) H' fun x H1 => ∃ c', x = V.bl c' ∧ if c' = true then (tChain (rI0 fun i j => .bl (decide (j ≤ i))) (rI0 fun i j => .bl (decide (j ≤ i))) (tCB (rLenOwn T.C (spClosedLen T.C) E0) (tCons (tOp (rOwn T.C (spClosedAnd T.P T.C) E0) (tVar 0) (tVar 1)) tNil)) (tCB (rLenOwn T.C (spClosedLen T.C) E0) (tCons (tVar 0) tNil)) (tCB (rLenOwn T.C (spClosedLen T.C) E0) (tCons (tOp (rOwn T.C (spClosedOr T.P T.C) E0) (tVar 0) (tVar 1)) tNil))) (L2.start n_law_is_order [V.ref a, V.ref b, V.ref c]) H1 Q else Q (.bl false) H1 := fun H' c1 S b' hc => by
        have e : c1 = decide (SA = SB) := by
          apply Bool.eq_iff_iff.mpr
          rw [hc, decide_eq_true_iff]
        refine ⟨rfl, true, by rw [e]; simp, iteT ?_⟩
        refine ⟨_, rfl, _, rfl, use_and b'.pl b'.f1 b'.f2 (by decide) (fun H25 r25 J25 s25 g25 e25 => use_len g25 (by decide) fun j25 f25 => ⟨_, rfl, use_len (b'.f1.same s25) (by decide) fun m1 f1 => ⟨_, _, rfl, rfl, true, ?_, iteT ?_⟩⟩)⟩
        · have := f25.fewer f1 (lower e25)
          show V.bl (decide ((m1 : Int) ≤ (j25 : Int))) = V.bl true
          rw [decide_eq_true (by omega)]
        refine ⟨_, rfl, _, rfl, use_or (b'.pl.same s25) (b'.f1.same s25) (b'.f2.same s25) (by decide) (fun H26 r26 J26 s26 g26 e26 => use_len g26 (by decide) fun j26 f26 => ⟨_, _, rfl, rfl, ?_⟩)⟩
        have := f1.fewer f26 (upper e26)
        show Q (V.bl (decide ((j26 : Int) ≤ (m1 : Int)))) _
        rw [decide_eq_true (by omega)]
        exact k _ ((S.trans s25).trans s26)
      refine ⟨_, rfl, _, rfl, use_le b'.pl b'.f1 b'.f2 (by decide) (fun H21 c21 s21 i21 => ⟨c21, rfl, iteB _ (fun hc => ?_) (fun hc => ?_)⟩)⟩
      · subst hc
        have b21 := b'.same s21
        refine ⟨_, rfl, _, rfl, use_le b21.pl b21.f2 b21.f1 (by decide) (fun H22 c22 s22 i22 => ⟨_, rfl, _, rfl, use_eq (b21.pl.same s22) (b21.f1.same s22) (b21.f2.same s22) (fin _ _ ((S.trans s21).trans s22) (b21.same s22) ?_)⟩)⟩
        rw [i22]
        constructor
        · intro h
          exact b21.f1.ext pos b21.f2 fun u v => ⟨i21.mp rfl u v, h u v⟩
        · intro h u v r
          rw [h]
          exact r
      · subst hc
        have b21 := b'.same s21
        refine ⟨_, rfl, _, rfl, use_eq b21.pl b21.f1 b21.f2 (fin _ _ (S.trans s21) b21 ⟨fun h => (by cases h), fun h => ?_⟩)⟩
        exact (i21.mpr fun u v r => by rw [← h]; exact r)
    -- the three tests with two premises
    have three : ∀ {X Y Z : Tab}, Le X Y → Le Y Z → Le X Z := fun h1 h2 u v r => h2 u v (h1 u v r)
    apply with_rest (A := fun H' => Same H H' ∧ B3 T p ks qs H' a b c SA SB SC)
    · intro rest
      refine ⟨_, rfl, _, rfl, use_le b24.pl b24.f1 b24.f2 (by decide) (fun H25 c25 s25 i25 => ⟨_, rfl, iteB _ (fun h25 => ?_) (fun h25 => ?_)⟩)⟩
      · subst h25
        have b25 := b24.same s25
        refine ⟨_, rfl, _, rfl, use_le b25.pl b25.f2 b25.f3 (by decide) (fun H26 c26 s26 i26 => ⟨_, rfl, iteB _ (fun h26 => ?_) (fun h26 => ?_)⟩)⟩
        · subst h26
          have b26 := b25.same s26
          refine ⟨_, rfl, _, rfl, use_le b26.pl b26.f1 b26.f3 (by decide) (fun H27 c27 s27 i27 => ⟨c27, rfl, ?_⟩)⟩
          obtain rfl : c27 = true := i27.mpr (three (i25.mp rfl) (i26.mp rfl))
          refine iteF ?_
          exact rest _ ⟨((S24.trans s25).trans s26).trans s27, b26.same s27⟩
        · subst h26
          refine iteF ?_
          exact rest _ ⟨(S24.trans s25).trans s26, b25.same s26⟩
      · subst h25
        refine iteF ?_
        exact rest _ ⟨S24.trans s25, b24.same s25⟩
    rintro H24' ⟨S24, b24⟩
    apply with_rest (A := fun H' => Same H H' ∧ B3 T p ks qs H' a b c SA SB SC)
    · intro rest
      refine ⟨_, rfl, _, rfl, use_le b24.pl b24.f3 b24.f1 (by decide) (fun H25 c25 s25 i25 => ⟨_, rfl, iteB _ (fun h25 => ?_) (fun h25 => ?_)⟩)⟩
      · subst h25
        have b25 := b24.same s25
        refine ⟨_, rfl, _, rfl, use_le b25.pl b25.f3 b25.f2 (by decide) (fun H26 c26 s26 i26 => ⟨_, rfl, iteB _ (fun h26 => ?_) (fun h26 => ?_)⟩)⟩
        · subst h26
          have b26 := b25.same s26
          refine ⟨_, rfl, _, rfl, _, rfl, use_and b26.pl b26.f1 b26.f2 (by decide) (fun H26' r26 J26 s26' g26 e26 => use_le (b26.pl.same s26') (b26.f3.same s26') g26 (by decide) (fun H27 c27 s27 i27 => ⟨c27, rfl, ?_⟩))⟩
          obtain rfl : c27 = true := i27.mpr fun u v r => (e26 u v).mpr ⟨i25.mp rfl u v r, i26.mp rfl u v r⟩
          refine iteF ?_
          exact rest _ ⟨(((S24.trans s25).trans s26).trans s26').trans s27, (b26.same s26').same s27⟩
        · subst h26
          refine iteF ?_
          exact rest _ ⟨(S24.trans s25).trans s26, b25.same s26⟩
      · subst h25
        refine iteF ?_
        exact rest _ ⟨S24.trans s25, b24.same s25⟩
    rintro H24'' ⟨S24, b24⟩
    apply with_rest (A := fun H' => Same H H' ∧ B3 T p ks qs H' a b c SA SB SC)
    · intro rest
      refine ⟨_, rfl, _, rfl, use_le b24.pl b24.f1 b24.f3 (by decide) (fun H25 c25 s25 i25 => ⟨_, rfl, iteB _ (fun h25 => ?_) (fun h25 => ?_)⟩)⟩
      · subst h25
        have b25 := b24.same s25
        refine ⟨_, rfl, _, rfl, use_le b25.pl b25.f2 b25.f3 (by decide) (fun H26 c26 s26 i26 => ⟨_, rfl, iteB _ (fun h26 => ?_) (fun h26 => ?_)⟩)⟩
        · subst h26
          have b26 := b25.same s26
          refine ⟨_, rfl, _, rfl, use_or b26.pl b26.f1 b26.f2 (by decide) (fun H26' r26 J26 s26' g26 e26 => ⟨_, rfl, use_le (b26.pl.same s26') g26 (b26.f3.same s26') (by decide) (fun H27 c27 s27 i27 => ⟨c27, rfl, ?_⟩)⟩)⟩
          obtain rfl : c27 = true := i27.mpr (ofJ e26 (i25.mp rfl) (i26.mp rfl))
          refine iteF ?_
          exact rest _ ⟨(((S24.trans s25).trans s26).trans s26').trans s27, (b26.same s26').same s27⟩
        · subst h26
          refine iteF ?_
          exact rest _ ⟨(S24.trans s25).trans s26, b25.same s26⟩
      · subst h25
        refine iteF ?_
        exact rest _ ⟨S24.trans s25, b24.same s25⟩
    rintro H24''' ⟨S24, b24⟩
    exact last _ S24 b24
end
end Cw

/-! ## CwO -/
namespace Cw
open PySem PySem.Spec PyProof.Rows L2 CwR
/-- the pen's dict -/
def penK (cl : Addr) (bg lf : Int) : List (Key × V) := [(.inr "cells", .ref cl), (.inr "begun", .int bg), (.inr "left", .int lf)]
def PenAt (H : Hp) (pn cl : Addr) (B : Nat) : Prop := ∃ (xs : List Int) (bg lf : Int), H pn = some (.dK (penK cl bg lf)) ∧ H cl = some (.lst (xs.map V.int)) ∧ xs.length ≤ 63 ∧ 0 ≤ bg ∧ bg ≤ (B : Int) ∧ 0 ≤ lf
section
variable {H : Hp} {pn cl : Addr} {bg lf : Int}
theorem pen_cells (h : H pn = some (.dK (penK cl bg lf))) : DGet H pn (.str "cells") (some (.ref cl)) := DGet.k (k := Sum.inr "cells") h
theorem pen_begun (h : H pn = some (.dK (penK cl bg lf))) : DGet H pn (.str "begun") (some (.int bg)) := DGet.k (k := Sum.inr "begun") h
theorem pen_left (h : H pn = some (.dK (penK cl bg lf))) : DGet H pn (.str "left") (some (.int lf)) := DGet.k (k := Sum.inr "left") h
theorem put_begun (h : H pn = some (.dK (penK cl bg lf))) (b : Int) : DPut H pn (.str "begun") (.int b) (upd H pn (.dK (penK cl b lf))) := DPut.k (k := Sum.inr "begun") (v := .int b) h (by show 3 < sizeLine; decide)
theorem put_left (h : H pn = some (.dK (penK cl bg lf))) (b : Int) : DPut H pn (.str "left") (.int b) (upd H pn (.dK (penK cl bg b))) := DPut.k (k := Sum.inr "left") (v := .int b) h (by show 3 < sizeLine; decide)
theorem PenAt.same {H' : Hp} {B : Nat} (h : PenAt H pn cl B) (s : Same H H') : PenAt H' pn cl B := by
  obtain ⟨xs, bg, lf, a, b, c⟩ := h
  exact ⟨xs, bg, lf, s _ _ a, s _ _ b, c⟩
theorem PenAt.more {B B' : Nat} (h : PenAt H pn cl B) (hB : B ≤ B') : PenAt H pn cl B' := by
  obtain ⟨xs, bg, lf, a, b, c, d, e, f⟩ := h
  exact ⟨xs, bg, lf, a, b, c, d, by omega, f⟩
end
theorem dp_intsZ {K : PySem.W.Frag} {H : Hp} {r : Addr} {xs : List Int} (h : H r = some (.lst (xs.map V.int))) : Dp K H (.ref r) (.list (xs.map PyData.int)) := by
  refine .lst (SqL.of h) ?_
  clear h
  induction xs with
  | nil => exact .nil
  | cons n row ih => exact .cons (.int _) ih
theorem intsZ_lay (r : List Int) : PyData.canLayAll0 (r.map PyData.int) = true ∧ PyData.depthAll (r.map PyData.int) = 0 := by
  induction r with
  | nil => simp [PyData.canLayAll0, PyData.depthAll]
  | cons n r ih => simp [PyData.canLayAll0, PyData.depthAll, PyData.canLay0, PyData.depth, ih]
theorem eqv_nilZ (xs : List Int) : PyData.eqv (.list (xs.map PyData.int)) (.list (([] : List Int).map PyData.int)) = decide (xs = []) := by
  cases xs with
  | nil => rfl
  | cons x xs => rfl
theorem with_rest2 {G : Prop} {A R : Int → Hp → Prop} (h : (∀ c H', A c H' → R c H') → G) (r : ∀ c H', A c H' → R c H') : G := h r
section
variable {P : Program} {w : World} {K : PySem.W.Frag} {mg : Str → Option Value} {base : Heap}
def spLawDraw : Sp := fun vs H Q _ => ∃ (pn cl : Addr) (B sp : Nat), vs = [.ref pn, .int sp] ∧ PenAt H pn cl B ∧ B ≤ 1000000 ∧ 0 < sp ∧ sp < 1000000 ∧ ∀ H' (r : Nat), KeepBut pn H H' → PenAt H' pn cl (B + 1) → r < sp → Q (iv r) H'
theorem emod_nat (x : Int) {sp : Nat} (h : 0 < sp) : ∃ r : Nat, x % (sp : Int) = (r : Int) ∧ r < sp := by
  have h1 := Int.emod_nonneg x (show (sp : Int) ≠ 0 by omega)
  have h2 := Int.emod_lt_of_pos x (show (0 : Int) < sp by omega)
  exact ⟨(x % (sp : Int)).toNat, by omega, by omega⟩
theorem ok_law_draw (T : TF K mg) : FnOk P w K mg base CX0 1 T.f_law_draw T.d_law_draw ["_law_pen", "_law_span"] (spLawDraw) := by
  refine T.F_law_draw.ok sc_law_draw (fun vs H Q E h => ?_) (fun cdv A outer s H vs Q E hr h => ?_)
  · obtain ⟨_, _, _, _, rfl, _⟩ := h
    rfl
  · obtain ⟨pn, cl, B, sp, rfl, ⟨xs, bg, lf, hp, hc, hx, hb0, hbB, hlf⟩, hB, hs0, hs1, k⟩ := h
    have nd := sc_law_draw.nd
    refine ⟨_, (pss_cons (ps_if (pt_cmpR op_gt (pe_dget (hu_of hr) (pv 0) pe_str (fun _ _ => rfl)) pe_int (nomark _)) (pss_cons (ps_set (i := 2) nd rfl (Or.inl rfl) (pe_op op_mod (pe_callTy call_int1 (by rfl) T.z_int (by decide +kernel) (pa_cons (pe_dget (hu_of hr) (pv 0) pe_str (fun _ _ => rfl)) (pa_nil))) (pv 1)))
      (pss_cons (ps_dput (hu_of hr) (pv 0) pe_str (pe_op op_fdiv (pe_dget (hu_of hr) (pv 0) pe_str (fun _ _ => rfl)) (pv 1)) rfl)
      (pss_one (ps_ret (pv 2))))) pss_nil)
      (pss_cons (ps_set (i := 3) nd rfl (Or.inl rfl) (pe_dget (hu_of hr) (pv 0) pe_str (fun _ _ => rfl)))
      (pss_cons (ps_dput (hu_of hr) (pv 0) pe_str (pe_op op_add (pv 3) pe_int) rfl)
      (pss_cons (ps_set (i := 4) nd rfl (Or.inl rfl) (pe_op op_add (pe_op op_mul pe_int (pv 3)) pe_int))
      (pss_cons (ps_if (pt_cmpR (op_neD hr.units) (pe_dget (hu_of hr) (pv 0) pe_str (fun _ _ => rfl)) (pe_lst (pa_nil)) (nomark _)) (pss_one (ps_set (i := 4) nd rfl (Or.inl rfl) (pe_ix ix_list (pe_dget (hu_of hr) (pv 0) pe_str (fun _ _ => rfl)) (pe_op op_mod (pe_callTy call_int1 (by rfl) T.z_int (by decide +kernel) (pa_cons (pv 3) (pa_nil))) (pe_callB call_len_seq (by rfl) T.z_len PySem.boot_len (pa_cons (pe_dget (hu_of hr) (pv 0) pe_str (fun _ _ => rfl)) (pa_nil)))) (fun _ _ => rfl)))) pss_nil)
      (pss_cons (ps_if (PW.pt (pw_and (pt_cmpR op_lt (pv 3) (pe_callB call_len_seq (by rfl) T.z_len PySem.boot_len (pa_cons (pe_dget (hu_of hr) (pv 0) pe_str (fun _ _ => rfl)) (pa_nil))) (nomark _)) (pw_and1 (pt_cmpR op_ge (pe_callB call_abs (by rfl) T.z_abs (by decide +kernel) (pa_cons (pv 4) (pa_nil))) (pe_op op_pow pe_int pe_int) (nomark _))))) (pss_cons (ps_dput (hu_of hr) (pv 0) pe_str (pe_op op_fdiv (pe_op op_sub (pe_callB call_abs (by rfl) T.z_abs (by decide +kernel) (pa_cons (pv 4) (pa_nil))) (pe_op op_pow pe_int pe_int)) (pv 1)) rfl)
      (pss_one (ps_ret (pe_op op_mod (pe_callTy call_int1 (by rfl) T.z_int (by decide +kernel) (pa_cons (pe_op op_sub (pe_callB call_abs (by rfl) T.z_abs (by decide +kernel) (pa_cons (pv 4) (pa_nil))) (pe_op op_pow pe_int pe_int)) (pa_nil))) (pv 1))))) pss_nil)
      (pss_cons (ps_set (i := 5) nd rfl (Or.inl rfl) (pe_op op_mod (pe_callTy call_int1 (by rfl) T.z_int (by decide +kernel) (pa_cons (pe_op op_add (pe_op op_add (pe_op op_add (pe_op op_mul (pe_op op_mod (pe_callTy call_int1 (by rfl) T.z_int (by decide +kernel) (pa_cons (pv 4) (pa_nil))) pe_int) pe_int) (pe_op op_mul (pe_op op_mul pe_int (pv 3)) (pv 3))) (pe_op op_mul pe_int (pv 3))) pe_int) (pa_nil))) pe_int))
      (pss_cons (ps_set (i := 5) nd rfl (Or.inl rfl) (pe_op op_mod (pe_callTy call_int1 (by rfl) T.z_int (by decide +kernel) (pa_cons (pe_op op_add (pe_op op_add (pe_op op_add (pe_op op_mul (pv 5) (pv 5)) (pe_op op_mul pe_int (pv 5))) (pe_op op_mul pe_int (pv 3))) pe_int) (pa_nil))) pe_int))
      (pss_cons (ps_set (i := 5) nd rfl (Or.inl rfl) (pe_op op_mod (pe_callTy call_int1 (by rfl) T.z_int (by decide +kernel) (pa_cons (pe_op op_add (pe_op op_add (pe_op op_mul (pv 5) (pv 5)) (pe_op op_mul pe_int (pv 5))) (pv 3)) (pa_nil))) pe_int))
      (pss_one (ps_ret (pe_op op_mod (pe_callTy call_int1 (by rfl) T.z_int (by decide +kernel) (pa_cons (pe_op op_fdiv (pe_op op_mod (pe_callTy call_int1 (by rfl) T.z_int (by decide +kernel) (pa_cons (pe_op op_mul (pv 5) (pe_op op_add (pv 5) pe_int)) (pa_nil))) pe_int) pe_int) (pa_nil))) (pv 1))))))))))))), ?_⟩
    have hcp : cl ≠ pn := ne_of hc hp (by intro z; cases z)
    have hsI : (0 : Int) < (sp : Int) := by omega
    have hdiv : (0 : Int) < (sp : Int) ∧ (sp : Int) < 1073741824 := ⟨by omega, by omega⟩
    refine ⟨_, rfl, pn, _, rfl, pen_left hp, _, _, rfl, rfl, _, rfl, ite2 (fun hl => ?_) (fun hl => ?_)⟩
    · obtain ⟨r, er, hr1⟩ := emod_nat lf hs0
      refine ⟨_, rfl, pn, _, rfl, pen_left hp, .inl ⟨_, rfl, _, rfl, _, _, rfl, rfl, hsI, ?_⟩⟩
      refine ⟨_, rfl, pn, _, rfl, pen_left hp, _, rfl, _, _, rfl, rfl, hdiv, _, rfl, pn, _, rfl, put_left hp _, _, rfl, ?_⟩
      show Q (V.int (lf % (sp : Int))) _
      rw [er]
      exact k _ r (KeepBut.refl _ _).put ⟨xs, bg, lf / (sp : Int), upd_same, by rw [upd_ne hcp]; exact hc, hx, hb0, by omega, Int.ediv_nonneg hlf (by omega)⟩ hr1
    · refine ⟨_, rfl, pn, _, rfl, pen_begun hp, ?_⟩
      refine ⟨_, rfl, _, _, rfl, rfl, _, rfl, pn, _, rfl, put_begun hp (bg + 1), ?_⟩
      have kb1 : KeepBut pn H (upd H pn (.dK (penK cl (bg + 1) lf))) := (KeepBut.refl _ _).put
      have hp1 := upd_same (H := H) (a := pn) (o := HO.dK (penK cl (bg + 1) lf))
      have hc1 : upd H pn (.dK (penK cl (bg + 1) lf)) cl = some (.lst (xs.map V.int)) := by rw [upd_ne hcp]; exact hc
      generalize upd H pn (.dK (penK cl (bg + 1) lf)) = H1 at kb1 hp1 hc1 ⊢
      have hbs : -(2 ^ 64) < bg ∧ bg < 2 ^ 64 := ⟨by omega, by omega⟩
      refine ⟨_, rfl, _, _, rfl, rfl, .inl ⟨by decide, by decide⟩, _, _, rfl, rfl, ?_⟩
      apply with_rest2 (A := fun (_ : Int) H2 => KeepBut pn H H2 ∧ H2 pn = some (.dK (penK cl (bg + 1) lf)) ∧ H2 cl = some (.lst (xs.map V.int)))
      · intro rest
        dsimp only
        generalize 67 * bg + 29 = c0
        refine ⟨_, rfl, pn, _, rfl, pen_cells hp1, by show 0 ≤ sizeLine; omega, fun l hl => ?_⟩
        have s2 : Same H1 (upd H1 l (.lst [])) := same_new (Same.refl _) hl
        have hl2 := upd_same (H := H1) (a := l) (o := HO.lst [])
        have kb2 := kb1.same s2
        have hp2 := s2 _ _ hp1
        have hc2 := s2 _ _ hc1
        generalize upd H1 l (.lst []) = H2 at kb2 hp2 hc2 hl2 ⊢
        refine ⟨_, _, dp_intsZ hc2, dp_intsZ (xs := []) hl2, (shaped_flat (intsZ_lay _)).2, (shaped_flat (intsZ_lay _)).2, _, rfl, ?_⟩
        rw [eqv_nilZ]
        by_cases hxe : xs = []
        · rw [show (!decide (xs = [])) = false from by simp [hxe]]
          refine iteF ?_
          exact rest c0 _ ⟨kb2, hp2, hc2⟩
        · rw [show (!decide (xs = [])) = true from by simp [hxe]]
          refine iteT (B := _) ?_
          have hxl : 0 < xs.length := List.length_pos_iff.mpr hxe
          obtain ⟨r, er, hr1⟩ := emod_nat bg hxl
          refine ⟨_, rfl, pn, _, rfl, pen_cells hp2, _, rfl, .inl ⟨_, rfl, _, rfl, pn, _, rfl, pen_cells hp2, cl, _, rfl, .inl (SqL.of hc2), _, _, rfl, rfl, ?_, cl, _, _, .int (xs.getD r 0), rfl, rfl, SqL.of hc2, ?_, ?_⟩⟩
          · show (0 : Int) < ((xs.map V.int).length : Nat)
            rw [List.length_map]
            omega
          · rw [List.length_map, er]
            refine atI_nat ?_
            rw [List.getElem?_map, List.getElem?_eq_getElem hr1]
            simp [List.getD_eq_getElem?_getD, List.getElem?_eq_getElem hr1]
          · exact rest (xs.getD r 0) _ ⟨kb2, hp2, hc2⟩
      · rintro c H2 ⟨kb2, hp2, hc2⟩
        have done : ∀ x : Int, ∀ H3 lf', KeepBut pn H H3 → H3 pn = some (.dK (penK cl (bg + 1) lf')) → H3 cl = some (.lst (xs.map V.int)) → 0 ≤ lf' → Q (.int (x % (sp : Int))) H3 := fun x H3 lf' kb3 hp3 hc3 hl3 => by
          obtain ⟨r, er, hr1⟩ := emod_nat x hs0
          rw [er]
          exact k _ r kb3 ⟨xs, bg + 1, lf', hp3, hc3, hx, by omega, by omega, hl3⟩ hr1
        have more : ∀ (c : Int), ∃ ab : Int, (if c < 0 then -c else c) = ab ∧ 0 ≤ ab := fun c => ⟨_, rfl, by split <;> omega⟩
        obtain ⟨ab, eab, hab⟩ := more c
        have hpw : CPow 10 18 := ⟨by decide, by decide, by decide⟩
        apply with_rest (A := fun H' => H' = H2)
        · intro rest
          refine ⟨_, rfl, _, rfl, pn, _, rfl, pen_cells hp2, cl, _, rfl, .inl (SqL.of hc2), _, _, rfl, rfl, _, rfl, ite2 (fun h1 => ?_) (fun h1 => ?_)⟩
          · refine ⟨_, rfl, c, rfl, _, _, rfl, rfl, hpw, _, _, rfl, rfl, _, rfl, ?_⟩
            rw [eab]
            refine ite2 (fun h2 => ?_) (fun h2 => ?_)
            · have h2' := of_decide_eq_true h2
              refine ⟨_, rfl, c, rfl, _, _, rfl, rfl, hpw, _, _, rfl, rfl, _, rfl, _, _, rfl, rfl, hdiv, _, rfl, pn, _, rfl, put_left hp2 _, _, rfl, c, rfl, _, _, rfl, rfl, hpw, _, _, rfl, rfl, .inl ⟨_, rfl, _, rfl, _, _, rfl, rfl, hsI, ?_⟩⟩
              refine done _ _ _ kb2.put upd_same (by rw [upd_ne hcp]; exact hc2) ?_
              rw [eab]
              exact Int.ediv_nonneg (by omega) (by omega)
            · exact rest _ rfl
          · refine iteF ?_
            exact rest _ rfl
        rintro H3 rfl
        have md : ∀ (x m : Int), 0 < m → 0 ≤ x % m ∧ x % m < m := fun x m hm => ⟨Int.emod_nonneg x (by omega), Int.emod_lt_of_pos x hm⟩
        refine ⟨_, rfl, .inl ⟨_, rfl, _, _, rfl, rfl, by show (0 : Int) < 4294967029; decide, _, _, rfl, rfl, .inr ⟨by decide, by decide⟩, _, rfl, _, _, rfl, rfl, .inl ⟨by decide, by decide⟩, _, rfl, _, _, rfl, rfl, .inr hbs, _, _, rfl, rfl, _, rfl, _, _, rfl, rfl, .inl ⟨by decide, by decide⟩, _, _, rfl, rfl, _, _, rfl, rfl, .inl ⟨_, rfl, _, _, rfl, rfl, by show (0 : Int) < 4294966997; decide, ?_⟩⟩⟩
        dsimp only
        generalize (c % 4294967029 * 40813 + 31253 * bg * bg + 613 * bg + 11) = y1
        have n1 := md y1 4294966997 (by decide)
        generalize y1 % 4294966997 = n at n1
        have m1 : CMul n n := .inl ⟨by omega, by omega⟩
        refine ⟨_, rfl, _, rfl, _, _, rfl, rfl, m1, _, rfl, _, _, rfl, rfl, .inl ⟨by decide, by decide⟩, _, _, rfl, rfl, _, rfl, _, _, rfl, rfl, .inl ⟨by decide, by decide⟩, _, _, rfl, rfl, _, _, rfl, rfl, .inl ⟨_, rfl, _, _, rfl, rfl, by show (0 : Int) < 4294966981; decide, ?_⟩⟩
        dsimp only
        generalize (n * n + 49831 * n + 59 * bg + 3) = y2
        have n2 := md y2 4294966981 (by decide)
        generalize y2 % 4294966981 = n' at n2
        have m2 : CMul n' n' := .inl ⟨by omega, by omega⟩
        refine ⟨_, rfl, _, rfl, _, _, rfl, rfl, m2, _, rfl, _, _, rfl, rfl, .inl ⟨by decide, by decide⟩, _, _, rfl, rfl, _, rfl, _, _, rfl, rfl, .inl ⟨_, rfl, _, _, rfl, rfl, by show (0 : Int) < 4294966943; decide, ?_⟩⟩
        dsimp only
        generalize (n' * n' + 30271 * n' + bg) = y3
        have n3 := md y3 4294966943 (by decide)
        generalize y3 % 4294966943 = n'' at n3
        have m3 : CMul n'' (n'' + 52639) := .inl ⟨by omega, by omega⟩
        refine ⟨_, rfl, _, rfl, _, _, rfl, rfl, _, _, rfl, rfl, m3, .inl ⟨_, rfl, _, _, rfl, rfl, by show (0 : Int) < 4294966927; decide, _, _, rfl, rfl, ⟨by decide, by decide⟩, .inl ⟨_, rfl, _, rfl, _, _, rfl, rfl, hsI, ?_⟩⟩⟩
        exact done _ _ lf kb2 hp2 hc2 hlf
end
end Cw

/-! ## CwFit -/
/-! Partial exchanges of places, as dicts and in plain Lean. -/
namespace Cw
open PySem PySem.Spec PyProof.Rows L2 CwR
abbrev PF := Nat → Option Nat
def fset (f : PF) (a b : Nat) : PF := fun x => if x = a then some b else f x
/-- the dict's entries tell f, below m -/
structure KvOk (kvs : List (Key × V)) (m : Nat) (f : PF) : Prop where
  keys : ∀ kv ∈ kvs, ∃ a b : Nat, a < m ∧ kv = (.inl (a : Int), iv b)
  nd : (kvs.map (·.1)).Nodup
  val : ∀ a : Nat, valV kvs (.inl (a : Int)) = (f a).map iv
theorem KvOk.nil (m : Nat) : KvOk [] m (fun _ => none) := ⟨fun kv h => (by cases h), List.nodup_nil, fun a => rfl⟩
theorem KvOk.len {kvs : List (Key × V)} {m : Nat} {f : PF} (h : KvOk kvs m f) : kvs.length ≤ m := by
  have := nodup_sub_length (U := (List.range m).map fun a : Nat => (Sum.inl (a : Int) : Key)) h.nd fun k hk => by
    obtain ⟨kv, hkv, rfl⟩ := List.mem_map.mp hk
    obtain ⟨a, b, ha, rfl⟩ := h.keys kv hkv
    exact List.mem_map.mpr ⟨a, List.mem_range.mpr ha, rfl⟩
  simpa using this
theorem keys_put {κ : Type} [DecidableEq κ] (kvs : List (κ × V)) (k : κ) (v : V) (h : valV kvs k ≠ none) : (putK kvs k v).map (·.1) = kvs.map (·.1) := by
  unfold putK
  rw [valV_any, if_pos (by cases e : valV kvs k with | none => exact absurd e h | some _ => rfl), List.map_map]
  apply List.map_congr_left
  intro p _
  show (if p.1 = k then (p.1, v) else p).1 = p.1
  split <;> rfl
theorem mem_put {κ : Type} [DecidableEq κ] {kvs : List (κ × V)} {k : κ} {v : V} {p : κ × V} (h : p ∈ putK kvs k v) : p ∈ kvs ∨ p = (k, v) := by
  unfold putK at h
  split at h
  · obtain ⟨q, hq, rfl⟩ := List.mem_map.mp h
    by_cases e : q.1 = k
    · right; rw [if_pos e, e]
    · left; rw [if_neg e]; exact hq
  · rcases List.mem_append.mp h with h | h
    · exact .inl h
    · exact .inr (List.mem_singleton.mp h)
theorem KvOk.put {kvs : List (Key × V)} {m : Nat} {f : PF} (h : KvOk kvs m f) {a : Nat} (b : Nat) (ha : a < m) : KvOk (putK kvs (.inl (a : Int)) (iv b)) m (fset f a b) := by
  refine ⟨fun kv hkv => ?_, ?_, fun x => ?_⟩
  · rcases mem_put hkv with h1 | rfl
    · exact h.keys kv h1
    · exact ⟨a, b, ha, rfl⟩
  · cases e : valV kvs (.inl (a : Int)) with
    | none => exact nd_putK _ h.nd e
    | some v => rw [keys_put _ _ _ (by rw [e]; simp)]; exact h.nd
  · rw [valV_put]
    unfold fset
    by_cases e : x = a
    · rw [if_pos (by rw [e]), if_pos e]; rfl
    · rw [if_neg (fun q => by injection q with q; omega), if_neg e]; exact h.val x
theorem valV_none_of {κ : Type} [DecidableEq κ] {kvs : List (κ × V)} {k : κ} (h : ¬ k ∈ kvs.map (·.1)) : valV kvs k = none := by
  induction kvs with
  | nil => rfl
  | cons p r ih =>
    rw [valV_neg (fun e => h (by simp [e])), ih (fun q => h (by simp only [List.map_cons, List.mem_cons]; exact .inr q))]
theorem KvOk.merge : ∀ {more kvs : List (Key × V)} {m : Nat} {f g : PF}, KvOk kvs m g → KvOk more m f → KvOk (mergeK kvs more) m (fun x => match f x with | some b => some b | none => g x)
  | [], kvs, m, f, g, h, h2 => by
    have : (fun x => match f x with | some b => some b | none => g x) = g := by
      funext x
      have := h2.val x
      cases e : f x with
      | none => rfl
      | some b => rw [e] at this; cases this
    rw [this]
    exact h
  | kv :: r, kvs, m, f, g, h, h2 => by
    obtain ⟨a, b, ha, rfl⟩ := h2.keys kv List.mem_cons_self
    have hnd := List.nodup_cons.mp h2.nd
    have hr : KvOk r m (fun x => if x = a then none else f x) := by
      refine ⟨fun kv hkv => h2.keys kv (List.mem_cons_of_mem _ hkv), hnd.2, fun x => ?_⟩
      by_cases e : x = a
      · subst e
        rw [if_pos rfl, valV_none_of hnd.1]
        rfl
      · rw [if_neg e, ← h2.val x, valV_neg (fun q => by injection q with q; omega)]
    have hfa : f a = some b := by
      have := h2.val a
      rw [valV_pos rfl] at this
      cases e : f a with
      | none => rw [e] at this; cases this
      | some b' =>
        rw [e] at this
        injection this with this
        injection this with this
        rw [show b' = b by omega]
    have ih := KvOk.merge (h.put b ha) hr
    show KvOk (mergeK (putK kvs (.inl (a : Int)) (iv b)) r) m _
    have e : (fun x => match f x with | some b => some b | none => g x) = (fun x => match (if x = a then none else f x) with | some b => some b | none => fset g a b x) := by
      funext x
      by_cases ex : x = a
      · subst ex
        simp [fset, hfa]
      · simp [fset, ex]
    rw [e]
    exact ih
theorem KvOk.get {kvs : List (Key × V)} {m : Nat} {f : PF} (h : KvOk kvs m f) (a : Nat) (v : V) : (valV kvs (.inl (a : Int))).getD v = match f a with | some b => iv b | none => v := by
  rw [h.val]
  cases f a <;> rfl
/-- a key of the dict, by its place -/
theorem KvOk.at {kvs : List (Key × V)} {m : Nat} {f : PF} (h : KvOk kvs m f) {i : Nat} {k : Key} {v : V} (e : kvs[i]? = some (k, v)) : ∃ a : Nat, k = .inl (a : Int) ∧ a < m ∧ f a ≠ none := by
  obtain ⟨a, b, ha, e2⟩ := h.keys _ (List.mem_of_getElem? e)
  cases e2
  refine ⟨a, rfl, ha, fun q => ?_⟩
  have := h.val a
  rw [q] at this
  have hm : (Sum.inl (a : Int) : Key) ∈ kvs.map (·.1) := List.mem_map.mpr ⟨_, List.mem_of_getElem? e, rfl⟩
  have h3 : (kvs.any fun kv => decide (kv.1 = (Sum.inl (a : Int) : Key))) = true := by
    rw [List.any_eq_true]
    obtain ⟨p, hp, hp2⟩ := List.mem_map.mp hm
    exact ⟨p, hp, decide_eq_true hp2⟩
  rw [valV_any, this] at h3
  cases h3
theorem KvOk.has {kvs : List (Key × V)} {m : Nat} {f : PF} (h : KvOk kvs m f) {a : Nat} (e : f a ≠ none) : ∃ (i : Nat) (v : V), kvs[i]? = some (Sum.inl (a : Int), v) := by
  have h3 : (kvs.any fun kv => decide (kv.1 = (Sum.inl (a : Int) : Key))) = true := by
    rw [valV_any, h.val]
    cases q : f a with
    | none => exact absurd q e
    | some b => rfl
  obtain ⟨p, hp, hp2⟩ := List.any_eq_true.mp h3
  obtain ⟨i, hi⟩ := List.mem_iff_getElem?.mp hp
  obtain ⟨k, v⟩ := p
  have : k = Sum.inl (a : Int) := of_decide_eq_true hp2
  subst this
  exact ⟨i, v, hi⟩

/-! ### plain -/
/-- f exchanges places below m in twos -/
structure PInv (m : Nat) (f : PF) : Prop where
  rng : ∀ a b, f a = some b → a < m ∧ b < m
  sym : ∀ a b, f a = some b → f b = some a
/-- what f holds together, the tables ts carry on -/
def ClosedBy (ts : List (List Nat)) (f : PF) : Prop := ∀ t ∈ ts, ∀ a b, f a = some b → f (t.getD a 0) = some (t.getD b 0)
/-- .. but for what still waits in W -/
def NearlyBy (ts : List (List Nat)) (f : PF) (W : List (Nat × Nat)) : Prop := ∀ t ∈ ts, ∀ a b, f a = some b → f (t.getD a 0) = some (t.getD b 0) ∨ (t.getD a 0, t.getD b 0) ∈ W ∨ (t.getD b 0, t.getD a 0) ∈ W
theorem NearlyBy.done {ts : List (List Nat)} {f : PF} (h : NearlyBy ts f []) : ClosedBy ts f := fun t ht a b e => by
  rcases h t ht a b e with h | h | h
  · exact h
  · cases h
  · cases h
def both (f : PF) (x y : Nat) : PF := fset (fset f x y) y x
theorem both_x (f : PF) (x y : Nat) : both f x y x = some y := by
  unfold both fset
  by_cases e : x = y
  · rw [if_pos e, e]
  · rw [if_neg e, if_pos rfl]
theorem both_y (f : PF) (x y : Nat) : both f x y y = some x := by unfold both fset; rw [if_pos rfl]
theorem both_ne (f : PF) {x y z : Nat} (h1 : z ≠ x) (h2 : z ≠ y) : both f x y z = f z := by unfold both fset; rw [if_neg h2, if_neg h1]
section
variable {m : Nat} {f : PF} {ts : List (List Nat)} {W : List (Nat × Nat)} {x y : Nat}
/-- the one that is taken out stands already -/
theorem near_old (p : PInv m f) (h : NearlyBy ts f (W ++ [(x, y)])) (e : f x = some y) : NearlyBy ts f W := fun t ht a b q => by
  rcases h t ht a b q with h | h | h
  · exact .inl h
  · rcases List.mem_append.mp h with h | h
    · exact .inr (.inl h)
    · have := List.mem_singleton.mp h
      injection this with h1 h2
      rw [h1, h2]; exact .inl e
  · rcases List.mem_append.mp h with h | h
    · exact .inr (.inr h)
    · have := List.mem_singleton.mp h
      injection this with h1 h2
      rw [h1, h2]; exact .inl (p.sym _ _ e)
theorem none_y (p : PInv m f) (hx : f x = none) (hy : f y = none ∨ f y = some x) : f y = none := by
  rcases hy with h | h
  · exact h
  · have := p.sym _ _ h
    rw [hx] at this
    cases this
theorem pinv_both (p : PInv m f) (hx : f x = none) (hy : f y = none) (h1 : x < m) (h2 : y < m) : PInv m (both f x y) := by
  have key : ∀ a b, both f x y a = some b → (a = x ∧ b = y) ∨ (a = y ∧ b = x) ∨ (a ≠ x ∧ a ≠ y ∧ b ≠ x ∧ b ≠ y ∧ f a = some b) := fun a b e => by
    by_cases ex : a = x
    · subst ex; rw [both_x] at e; exact .inl ⟨rfl, (Option.some.inj e).symm⟩
    by_cases ey : a = y
    · subst ey; rw [both_y] at e; exact .inr (.inl ⟨rfl, (Option.some.inj e).symm⟩)
    rw [both_ne f ex ey] at e
    have s := p.sym _ _ e
    exact .inr (.inr ⟨ex, ey, fun q => (by rw [q, hx] at s; cases s), fun q => (by rw [q, hy] at s; cases s), e⟩)
  refine ⟨fun a b e => ?_, fun a b e => ?_⟩
  · rcases key a b e with ⟨rfl, rfl⟩ | ⟨rfl, rfl⟩ | ⟨_, _, _, _, e⟩
    · exact ⟨h1, h2⟩
    · exact ⟨h2, h1⟩
    · exact p.rng _ _ e
  · rcases key a b e with ⟨rfl, rfl⟩ | ⟨rfl, rfl⟩ | ⟨_, _, c, d, e⟩
    · exact both_y _ _ _
    · exact both_x _ _ _
    · rw [both_ne f c d]; exact p.sym _ _ e
theorem near_both (p : PInv m f) (h : NearlyBy ts f (W ++ [(x, y)])) (hx : f x = none) (hy : f y = none) : NearlyBy ts (both f x y) (W ++ ts.map fun t => (t.getD x 0, t.getD y 0)) := fun t ht a b q => by
  by_cases ex : a = x
  · subst ex
    rw [both_x] at q
    cases q
    exact .inr (.inl (List.mem_append_right _ (List.mem_map.mpr ⟨t, ht, rfl⟩)))
  by_cases ey : a = y
  · subst ey
    rw [both_y] at q
    cases q
    exact .inr (.inr (List.mem_append_right _ (List.mem_map.mpr ⟨t, ht, rfl⟩)))
  rw [both_ne f ex ey] at q
  rcases h t ht a b q with h | h | h
  · left
    rw [both_ne f (fun e => by rw [e, hx] at h; cases h) (fun e => by rw [e, hy] at h; cases h)]
    exact h
  · rcases List.mem_append.mp h with h | h
    · exact .inr (.inl (List.mem_append_left _ h))
    · have := List.mem_singleton.mp h
      injection this with h1 h2
      rw [h1, h2]; exact .inl (both_x _ _ _)
  · rcases List.mem_append.mp h with h | h
    · exact .inr (.inr (List.mem_append_left _ h))
    · have := List.mem_singleton.mp h
      injection this with h1 h2
      rw [h1, h2]; exact .inl (both_y _ _ _)
/-- two that have no place in common, as one -/
def joinF (f g : PF) : PF := fun x => match f x with | some b => some b | none => g x
theorem pinv_join {g : PF} (p : PInv m f) (q : PInv m g) (hd : ∀ a, f a ≠ none → g a = none) : PInv m (joinF f g) := by
  refine ⟨fun a b e => ?_, fun a b e => ?_⟩
  · unfold joinF at e
    cases h : f a with
    | none => rw [h] at e; exact q.rng _ _ e
    | some c => rw [h] at e; cases e; exact p.rng _ _ h
  · unfold joinF at e ⊢
    cases h : f a with
    | none =>
      rw [h] at e
      have s := q.sym _ _ e
      cases h2 : f b with
      | none => exact s
      | some c => have := hd b (by rw [h2]; simp); rw [s] at this; cases this
    | some c => rw [h] at e; cases e; rw [p.sym _ _ h]
theorem closed_join {g : PF} (hf : ClosedBy ts f) (hg : ClosedBy ts g) (hd : ∀ a, f a ≠ none → g a = none) : ClosedBy ts (joinF f g) := fun t ht a b e => by
  unfold joinF at e ⊢
  cases h : f a with
  | none =>
    rw [h] at e
    have s := hg t ht a b e
    cases h2 : f (t.getD a 0) with
    | none => exact s
    | some c => have := hd _ (by rw [h2]; simp : f (t.getD a 0) ≠ none); rw [s] at this; cases this
  | some c =>
    rw [h] at e
    rw [hf t ht a c h]
    rw [Option.some.inj e]
/-- all places: those without a partner stay -/
def total (f : PF) (m : Nat) : List Nat := (List.range m).map fun p => (f p).getD p
theorem total_at {p : Nat} (hp : p < m) : (total f m).getD p 0 = (f p).getD p := by
  unfold total
  rw [List.getD_eq_getElem?_getD, List.getElem?_map, List.getElem?_range hp]
  rfl
theorem total_lt (q : PInv m f) {p : Nat} (hp : p < m) : (total f m).getD p 0 < m := by
  rw [total_at hp]
  cases h : f p with
  | none => exact hp
  | some b => exact (q.rng _ _ h).2
theorem total_inv (q : PInv m f) {p : Nat} (hp : p < m) : (total f m).getD ((total f m).getD p 0) 0 = p := by
  have hl := total_lt q hp
  rw [total_at hl, total_at hp]
  cases h : f p with
  | none => simp [h]
  | some b => simp [q.sym _ _ h]
theorem total_comm (q : PInv m f) (h : ClosedBy ts f) {t : List Nat} (ht : t ∈ ts) (tl : ∀ p, p < m → t.getD p 0 < m) (ti : ∀ p, p < m → t.getD (t.getD p 0) 0 = p) {p : Nat} (hp : p < m) :
    (total f m).getD (t.getD p 0) 0 = t.getD ((total f m).getD p 0) 0 := by
  rw [total_at (tl p hp), total_at hp]
  cases e : f p with
  | some b => rw [h t ht p b e]; rfl
  | none =>
    cases e2 : f (t.getD p 0) with
    | none => rfl
    | some c =>
      have := h t ht _ _ e2
      rw [ti p hp, e] at this
      cases this
end
end Cw

/-! ## CwP -/
namespace Cw
open PySem PySem.Spec PyProof.Rows L2 CwR
def sceneK (ks : List Nat) (pl p tw : Addr) : List (Key × V) := [(.inr "kinds", .str (txt ks)), (.inr "pairs", .ref pl), (.inr "plan", .ref p), (.inr "twin", .ref tw)]
def SceneAt (H : Hp) (s : Addr) (ks : List Nat) (cr : List (Nat × Nat)) (p : Addr) : Prop := ∃ pl tw, H s = some (.dK (sceneK ks pl p tw)) ∧ H pl = some (.lst (cr.map pairV))
theorem SceneAt.same {H H' : Hp} {s : Addr} {ks : List Nat} {cr : List (Nat × Nat)} {p : Addr} (h : SceneAt H s ks cr p) (k : Same H H') : SceneAt H' s ks cr p := by
  obtain ⟨pl, tw, a, b⟩ := h
  exact ⟨pl, tw, k _ _ a, k _ _ b⟩
section
variable {H : Hp} {s pl p tw : Addr} {ks : List Nat}
theorem sc_kinds (h : H s = some (.dK (sceneK ks pl p tw))) : DGet H s (.str "kinds") (some (.str (txt ks))) := DGet.k (k := Sum.inr "kinds") h
theorem sc_pairs (h : H s = some (.dK (sceneK ks pl p tw))) : DGet H s (.str "pairs") (some (.ref pl)) := DGet.k (k := Sum.inr "pairs") h
theorem sc_plan (h : H s = some (.dK (sceneK ks pl p tw))) : DGet H s (.str "plan") (some (.ref p)) := DGet.k (k := Sum.inr "plan") h
end
theorem inV_pair (a b : Nat) (cr : List (Nat × Nat)) : inV (.str (sgn a ++ sgn b)) (cr.map pairV) = decide ((a, b) ∈ cr) := by
  rw [sgn_add]
  unfold inV
  rw [List.any_map]
  apply Bool.eq_iff_iff.mpr
  rw [List.any_eq_true, decide_eq_true_iff]
  constructor
  · rintro ⟨q, hq, e⟩
    have e2 : (txt [q.1, q.2] == txt [a, b]) = true := e
    have e3 : txt [q.1, q.2] = txt [a, b] := by simpa using e2
    rw [txt_inj] at e3
    injection e3 with h1 h2
    injection h2 with h2 _
    have : q = (a, b) := Prod.ext h1 h2
    rw [← this]; exact hq
  · intro h
    refine ⟨(a, b), h, ?_⟩
    show (txt [a, b] == txt [a, b]) = true
    simp
/-- kinds that cross -/
def xr (cr : List (Nat × Nat)) (a b : Nat) : Bool := decide ((a, b) ∈ cr) || decide ((b, a) ∈ cr)
theorem valV_at {κ : Type} [DecidableEq κ] : ∀ {kvs : List (κ × V)} {i : Nat} {k : κ} {v : V}, (kvs.map (·.1)).Nodup → kvs[i]? = some (k, v) → valV kvs k = some v
  | [], i, k, v, _, h => by simp at h
  | p :: r, 0, k, v, _, h => by
    have : p = (k, v) := by simpa using h
    rw [this]
    exact valV_pos rfl
  | p :: r, i + 1, k, v, hn, h => by
    have hn' := List.nodup_cons.mp hn
    have h' : r[i]? = some (k, v) := by simpa using h
    rw [valV_neg (fun e => hn'.1 (by show p.1 ∈ _; rw [e]; exact List.mem_map.mpr ⟨_, List.mem_of_getElem? h', rfl⟩))]
    exact valV_at hn'.2 h'
/-- rows of exchanges by kinds, in a dict -/
def TabK (H : Hp) (kvs : List (Key × V)) (DT : List (Nat × List Nat)) : Prop := kvs.length = DT.length ∧ ∀ (i : Nat) (kv : Key × V) (q : Nat × List Nat), kvs[i]? = some kv → DT[i]? = some q → ∃ r, kv = (.inr (sgn q.1), .ref r) ∧ H r = some (.lst (q.2.map iv))
def TabD (H : Hp) (d : Addr) (DT : List (Nat × List Nat)) : Prop := ∃ kvs, H d = some (.dK kvs) ∧ TabK H kvs DT
theorem TabK.keep {H H' : Hp} {kvs : List (Key × V)} {DT : List (Nat × List Nat)} (h : TabK H kvs DT) (k : ∀ r xs, H r = some (.lst xs) → H' r = some (.lst xs)) : TabK H' kvs DT := ⟨h.1, fun i kv q a b => by
  obtain ⟨r, e, f⟩ := h.2 i kv q a b
  exact ⟨r, e, k _ _ f⟩⟩
theorem TabK.keys {H : Hp} {kvs : List (Key × V)} {DT : List (Nat × List Nat)} (h : TabK H kvs DT) : kvs.map (·.1) = (DT.map (·.1)).map fun c => (Sum.inr (sgn c) : Key) := by
  apply List.ext_getElem?
  intro i
  rw [List.getElem?_map, List.getElem?_map, List.getElem?_map]
  cases e : kvs[i]? with
  | none =>
    have : DT[i]? = none := List.getElem?_eq_none_iff.mpr (by have := List.getElem?_eq_none_iff.mp e; have := h.1; omega)
    rw [this]; rfl
  | some kv =>
    have hi : i < DT.length := by have := (List.getElem?_eq_some_iff.mp e).1; have := h.1; omega
    rw [List.getElem?_eq_getElem hi]
    obtain ⟨r, e2, _⟩ := h.2 i kv _ e (List.getElem?_eq_getElem hi)
    rw [e2]
    rfl
theorem sgn_keys_nd {L : List Nat} (h : L.Nodup) : (L.map fun c => (Sum.inr (sgn c) : Key)).Nodup := by
  induction L with
  | nil => exact List.nodup_nil
  | cons a L ih =>
    have h' := List.nodup_cons.mp h
    refine List.nodup_cons.mpr ⟨fun m => ?_, ih h'.2⟩
    obtain ⟨b, hb, e⟩ := List.mem_map.mp m
    injection e with e
    rw [sgn_inj] at e
    rw [← e] at h'
    exact h'.1 hb
theorem TabK.get {H : Hp} {kvs : List (Key × V)} {DT : List (Nat × List Nat)} (h : TabK H kvs DT) (hn : (DT.map (·.1)).Nodup) {i : Nat} {q : Nat × List Nat} (e : DT[i]? = some q) : ∃ r, valV kvs (.inr (sgn q.1)) = some (.ref r) ∧ H r = some (.lst (q.2.map iv)) := by
  have hi : i < kvs.length := by rw [h.1]; exact (List.getElem?_eq_some_iff.mp e).1
  obtain ⟨r, e2, f⟩ := h.2 i _ q (List.getElem?_eq_getElem hi) e
  refine ⟨r, valV_at (i := i) (by rw [h.keys]; exact sgn_keys_nd hn) ?_, f⟩
  rw [List.getElem?_eq_getElem hi, e2]
/-- the rows of the kinds that cross this one -/
def xts (cr : List (Nat × Nat)) (dk : Nat) (DT : List (Nat × List Nat)) : List (List Nat) := (DT.filter fun q => xr cr q.1 dk).map (·.2)
def pairD (p : Nat × Nat) : PyData := rowD [p.1, p.2]
theorem shaped_prs (W : List (Nat × Nat)) : SeqAt.shaped (.list (W.map pairD)) = true := by
  have := canLay_rows (W.map fun p => [p.1, p.2])
  rw [List.map_map] at this
  have e : W.map pairD = W.map (rowD ∘ fun p => [p.1, p.2]) := rfl
  rw [e]
  unfold SeqAt.shaped
  rw [Bool.and_eq_true]
  refine ⟨by rw [PyData.canLay0]; exact this.1, decide_eq_true ?_⟩
  rw [PyData.depth]
  omega
theorem dp_prs {K : PySem.W.Frag} {H : Hp} : ∀ {ts : List Addr} {W : List (Nat × Nat)}, PrsAt H ts W → DpAll K H (ts.map V.ref) (W.map pairD)
  | [], [], _ => .nil
  | [], _ :: _, h => absurd h.1 (by simp)
  | _ :: _, [], h => absurd h.1 (by simp)
  | t :: ts, p :: W, h => .cons (dp_row (row := [p.1, p.2]) (h.2 0 t p rfl rfl)) (dp_prs ⟨by simpa using h.1, fun k t' p' a b => h.2 (k + 1) t' p' (by simpa using a) (by simpa using b)⟩)
theorem eqv_nilP (W : List (Nat × Nat)) : PyData.eqv (.list (W.map pairD)) (.list (([] : List (Nat × Nat)).map pairD)) = decide (W = []) := by
  cases W with
  | nil => rfl
  | cons x xs => rfl
section
variable {P : Program} {w : World} {K : PySem.W.Frag} {mg : Str → Option Value} {base : Heap}
def spLawBegin (K : PySem.W.Frag) : Sp := fun vs H Q _ => ∃ (a : Addr) (xs : List Int), vs = [.ref a] ∧ SqL K H a (xs.map V.int) ∧ xs.length ≤ 63 ∧ ∀ H' pn cl, Same H H' → H pn = none → PenAt H' pn cl 0 → Q (.ref pn) H'
theorem ok_law_begin (T : TF K mg) : FnOk P w K mg base CX0 1 T.f_law_begin T.d_law_begin ["_law_script"] (spLawBegin K) := by
  refine T.F_law_begin.ok sc_law_begin (fun vs H Q E h => ?_) (fun cdv A outer s H vs Q E hr h => ?_)
  · obtain ⟨_, _, rfl, _⟩ := h
    rfl
  · obtain ⟨a, xs, rfl, ha, hx, k⟩ := h
    have nd := sc_law_begin.nd
    refine ⟨_, (pss_one (ps_ret (pe_disp (pps_cons pe_str (pe_callTy call_list_of (by rfl) T.z_list (by decide +kernel) (pa_cons (pe_slice sl_list (pv 0) po_none (po_some pe_int)) (pa_nil))) (pps_cons pe_str pe_int (pps_cons pe_str pe_int pps_nil))) rfl rfl (by simp) (by decide)))), ?_⟩
    intro pn hpn
    have s1 : Same H (upd H pn (.dK [])) := same_new (Same.refl _) hpn
    refine ⟨_, rfl, 63, rfl, a, _, rfl, s1.seq ha, fun l hl => ?_⟩
    have hl0 := Same.free s1 hl
    obtain ⟨ys, ey, hy⟩ : ∃ ys : List Int, cutV (xs.map V.int) none (some 63) = ys.map V.int ∧ ys.length ≤ 63 := by
      refine ⟨(xs.drop (HT.sIx (xs.map V.int).length 0 none)).take (HT.sIx (xs.map V.int).length (xs.map V.int).length (some 63) - HT.sIx (xs.map V.int).length 0 none), ?_, ?_⟩
      · unfold cutV
        rw [List.map_take, List.map_drop]
      · rw [List.length_take, List.length_drop]
        omega
    rw [ey]
    have s2 : Same H (upd (upd H pn (.dK [])) l (.lst (ys.map V.int))) := same_new s1 hl0
    have hpl : pn ≠ l := ne_free upd_same hl
    refine ⟨l, _, rfl, .inl (SqL.of upd_same), fun l2 hl2 => ?_⟩
    have hpl2 : pn ≠ l2 := ne_free (o := .dK []) (by rw [upd_ne hpl, upd_same]) hl2
    refine ⟨by rw [upd_ne hpl2, upd_ne hpl, upd_same], [(.inr "cells", .ref l2), (.inr "begun", .int 0), (.inr "left", .int 0)], rfl, by show 3 ≤ 15; decide, ?_⟩
    refine k _ pn l2 (same_new (same_new s2 (Same.free s2 hl2)) hpn) hpn ⟨ys, 0, 0, upd_same, ?_, hy, Int.le_refl _, Int.le_refl _, Int.le_refl _⟩
    rw [upd_ne hpl2.symm, upd_same]
def spLawPick : Sp := fun vs H Q _ => ∃ (pn cl l : Addr) (B : Nat) (xs : List V), vs = [.ref pn, .ref l] ∧ PenAt H pn cl B ∧ B ≤ 1000000 ∧ H l = some (.lst xs) ∧ 0 < xs.length ∧ xs.length < 1000000 ∧ ∀ (H' : Hp) (r : Nat) (v : V), KeepBut pn H H' → PenAt H' pn cl (B + 1) → xs[r]? = some v → Q v H'
theorem ok_law_pick (T : TF K mg) : FnOk P w K mg base CX0 2 T.f_law_pick T.d_law_pick ["_law_pen", "_law_some"] (spLawPick) := by
  refine T.F_law_pick.ok sc_law_pick (fun vs H Q E h => ?_) (fun cdv A outer s H vs Q E hr h => ?_)
  · obtain ⟨_, _, _, _, _, rfl, _⟩ := h
    rfl
  · obtain ⟨pn, cl, l, B, xs, rfl, hp, hB, hl, hx0, hx1, k⟩ := h
    have nd := sc_law_pick.nd
    refine ⟨_, (pss_one (ps_ret (pe_ix ix_list (pv 1) (pe_call (ok_law_draw T) (hr.mono (by decide)) rfl T.m_law_draw T.F_law_draw.kp T.b_law_draw .nil pass0 (pa_cons (pv 0) (pa_cons (pe_callB call_len_seq (by rfl) T.z_len PySem.boot_len (pa_cons (pv 1) (pa_nil))) (pa_nil)))) (fun _ _ => rfl)))), ?_⟩
    refine ⟨_, rfl, _, rfl, _, rfl, l, _, rfl, .inl (SqL.of hl), pn, cl, B, xs.length, rfl, hp, hB, hx0, hx1, fun H1 r kb hp1 hr1 => ?_⟩
    have hlp : l ≠ pn := by
      obtain ⟨_, _, _, e, _⟩ := hp
      exact ne_of hl e (by intro z; cases z)
    exact ⟨l, _, _, _, rfl, rfl, SqL.of (kb _ _ hlp hl), atI_nat (List.getElem?_eq_getElem hr1), k _ r _ kb hp1 (List.getElem?_eq_getElem hr1)⟩
def spLawCross : Sp := fun vs H Q _ => ∃ (s : Addr) (a b : Nat) (ks : List Nat) (cr : List (Nat × Nat)) (p : Addr), vs = [.ref s, .str (sgn a), .str (sgn b)] ∧ SceneAt H s ks cr p ∧ Q (.bl (xr cr a b)) H
theorem ok_law_cross (T : TF K mg) : FnOk P w K mg base CX0 1 T.f_law_cross T.d_law_cross ["_law_scene_here", "_law_a", "_law_b"] (spLawCross) := by
  refine T.F_law_cross.ok sc_law_cross (fun vs H Q E h => ?_) (fun cdv A outer s H vs Q E hr h => ?_)
  · obtain ⟨_, _, _, _, _, _, rfl, _⟩ := h
    rfl
  · obtain ⟨sc, a, b, ks, cr, p, rfl, ⟨pl, tw, e1, e2⟩, k⟩ := h
    have nd := sc_law_cross.nd
    refine ⟨_, (pss_one (ps_ret (pe_or (pe_cmpR op_in_seq (pe_op op_add_str (pv 1) (pv 2)) (pe_dget (hu_of hr) (pv 0) pe_str (fun _ _ => rfl)) rfl) (pe_one (pe_cmpR op_in_seq (pe_op op_add_str (pv 2) (pv 1)) (pe_dget (hu_of hr) (pv 0) pe_str (fun _ _ => rfl)) rfl))))), ?_⟩
    refine ⟨_, rfl, _, rfl, sgn a, sgn b, rfl, rfl, by show 2 ≤ sizeLine; decide, _, rfl, sc, _, rfl, sc_pairs e1, pl, _, rfl, .inl (SqL.of e2), rfl, flat_pairs cr, _, rfl, ?_⟩
    show if inV (.str (sgn a ++ sgn b)) (cr.map pairV) = true then _ else _
    rw [inV_pair]
    unfold xr at k
    by_cases h1 : (a, b) ∈ cr
    · rw [decide_eq_true h1] at k ⊢
      exact iteT k
    · rw [decide_eq_false h1] at k ⊢
      refine iteF ⟨_, rfl, _, rfl, sgn b, sgn a, rfl, rfl, by show 2 ≤ sizeLine; decide, _, rfl, sc, _, rfl, sc_pairs e1, pl, _, rfl, .inl (SqL.of e2), rfl, flat_pairs cr, ?_⟩
      show Q (.bl (inV (.str (sgn b ++ sgn a)) (cr.map pairV))) H
      rw [inV_pair]
      exact k
def spLawLists : Sp := fun vs H Q _ => ∃ (s d : Addr) (ks : List Nat) (cr : List (Nat × Nat)) (p : Addr) (DT : List (Nat × List Nat)), vs = [.ref s, .ref d] ∧ SceneAt H s ks cr p ∧ TabD H d DT ∧ DT.map (·.1) = ks ∧ ks.Nodup ∧ ks.length ≤ 26 ∧ ∀ H' t, Same H H' → LTab H' t (DT.map (·.2)) → Q (.ref t) H'
theorem ok_law_lists (T : TF K mg) : FnOk P w K mg base CX0 1 T.f_law_lists T.d_law_lists ["_law_scene_here", "_law_tables"] (spLawLists) := by
  refine T.F_law_lists.ok sc_law_lists (fun vs H Q E h => ?_) (fun cdv A outer s H vs Q E hr h => ?_)
  · obtain ⟨_, _, _, _, _, _, rfl, _⟩ := h
    rfl
  · obtain ⟨sc, d, ks, cr, p, DT, rfl, ⟨pl, tw, e1, e2⟩, ⟨kvs, hd, hk⟩, hks, hn, hl, k⟩ := h
    have nd := sc_law_lists.nd
    refine ⟨_, (pss_one (ps_ret (pe_lc (own := [("_law_door", 2)]) (g := (gName 2)) (tt := tYes) rfl nd (pi_str (pe_dget (hu_of hr) (pv 0) pe_str (fun _ _ => rfl))) (blkOk_by (own := [("_law_door", 2)]) (N := n_law_lists) (sc := defScope s_law_lists) (by decide +kernel)) (fun _ _ _ _ _ => (pg_name (i := 2) nd rfl (by first | exact Or.inl rfl | exact Or.inr rfl))) (fun _ _ _ _ _ => pts_nil) (fun _ _ _ _ _ => (pe_callTy (call_list_ofK (K := K)) (by rfl) T.z_list (by decide +kernel) (pa_cons (pe_dget (hu_of hr) (pv 1) (pv 2) (fun _ _ => rfl)) (pa_nil))))))), ?_⟩
    have big : sizeLine ≥ 1000000 := by decide
    have hlen : DT.length = ks.length := by rw [← hks, List.length_map]
    refine ⟨_, rfl, sc, _, rfl, sc_kinds e1, txt ks, rfl, fun D hD => lc_refs walk_str (fun i => .lst (((DT.map (·.2)).getD i []).map iv)) hD (by rw [txt_size]; omega) (fun _ _ => True.intro) (fun i x H3 H' kk hi s3 hDl y kt => ?_) (fun H3 ts s3 hD3 hn3 hts => ?_)⟩
    · obtain ⟨rfl, c, hc, rfl⟩ := y
      have hc' := txt_at hc
      rw [txt_size] at hi
      have hDT : DT[i]? = some DT[i] := List.getElem?_eq_getElem (by omega)
      generalize DT[i] = q at hDT
      have hq : q.1 = c := by
        rw [← hks, List.getElem?_map, hDT] at hc'
        exact Option.some.inj hc'
      obtain ⟨r, hv, hr1⟩ := hk.get (by rw [hks]; exact hn) hDT
      rw [hq] at hv
      refine ⟨rfl, _, rfl, _, rfl, d, _, rfl, ?_, r, _, rfl, .inl (SqL.of (s3 _ _ hr1)), fun l hl => kt _ l (same_new (Same.refl _) hl) ?_ ?_⟩
      · rw [← hv]
        exact DGet.k (k := Sum.inr (sgn c)) (s3 _ _ hd)
      · rw [upd_same, getD_of (x := q.2) (by rw [List.getElem?_map, hDT]; rfl)]
      · obtain ⟨xs, hx⟩ := hDl
        exact fun e => by rw [e, hx] at hl; cases hl
    · refine k _ D s3 ⟨ts, hD3, by rw [hn3, txt_size, List.length_map, hlen], fun j r row a b => ?_⟩
      have := hts j r a
      rw [getD_of b] at this
      exact this
end
end Cw

/-! ## CwQ -/
namespace Cw
open PySem PySem.Spec PyProof.Rows L2 CwR
theorem xts_succ {cr : List (Nat × Nat)} {dk : Nat} {DT : List (Nat × List Nat)} {i : Nat} {q : Nat × List Nat} (h : DT[i]? = some q) : xts cr dk (DT.take (i + 1)) = xts cr dk (DT.take i) ++ (if xr cr q.1 dk = true then [q.2] else []) := by
  unfold xts
  rw [List.take_add_one, h, List.filter_append, List.map_append]
  show _ ++ (List.filter _ [q]).map _ = _
  by_cases e : xr cr q.1 dk = true
  · rw [if_pos e, List.filter_cons, if_pos e]; rfl
  · rw [if_neg e, List.filter_cons, if_neg e]; rfl
theorem xts_len (cr : List (Nat × Nat)) (dk : Nat) (DT : List (Nat × List Nat)) : (xts cr dk DT).length ≤ DT.length := by
  unfold xts
  rw [List.length_map]
  exact List.length_filter_le _ _
theorem xts_mem {cr : List (Nat × Nat)} {dk : Nat} {DT : List (Nat × List Nat)} {t : List Nat} (h : t ∈ xts cr dk DT) : ∃ q ∈ DT, t = q.2 ∧ xr cr q.1 dk = true := by
  unfold xts at h
  obtain ⟨q, hq, rfl⟩ := List.mem_map.mp h
  obtain ⟨h1, h2⟩ := List.mem_filter.mp hq
  exact ⟨q, h1, rfl, h2⟩
theorem le_putK {κ : Type} [DecidableEq κ] (kvs : List (κ × V)) (k : κ) (v : V) : kvs.length ≤ (putK kvs k v).length := by
  unfold putK
  split
  · rw [List.length_map]; exact Nat.le_refl _
  · rw [List.length_append]; exact Nat.le_add_right _ _
section
variable {P : Program} {w : World} {K : PySem.W.Frag} {mg : Str → Option Value} {base : Heap}
def spLawFit : Sp := fun vs H Q _ => ∃ (s d : Addr) (ks : List Nat) (cr : List (Nat × Nat)) (p : Addr) (DT : List (Nat × List Nat)) (dk one two m : Nat), vs = [.ref s, .ref d, .str (sgn dk), .int one, .int two] ∧ SceneAt H s ks cr p ∧ TabD H d DT ∧ s ≠ d ∧ (DT.map (·.1)).Nodup ∧ DT.length ≤ 26 ∧ m ≤ 1000 ∧ one < m ∧ two < m ∧
  (∀ q ∈ DT, q.2.length = m ∧ ∀ p, p < m → q.2.getD p 0 < m) ∧ (∀ H', Same H H' → Q .non H') ∧ ∀ H' pd kvs f, Same H H' → H pd = none → H' pd = some (.dK kvs) → KvOk kvs m f → PInv m f → ClosedBy (xts cr dk DT) f → Q (.ref pd) H'
theorem ok_law_fit (T : TF K mg) : FnOk P w K mg base CX0 2 T.f_law_fit T.d_law_fit ["_law_scene_here", "_law_tables", "_law_door", "_law_one", "_law_two"] (spLawFit) := by
  refine T.F_law_fit.ok sc_law_fit (fun vs H Q E h => ?_) (fun cdv A outer s H vs Q E hr h => ?_)
  · obtain ⟨_, _, _, _, _, _, _, _, _, _, rfl, _⟩ := h
    rfl
  · obtain ⟨sc, d, ks, cr, p, DT, dk, one, two, m, rfl, ⟨pl, tw, hs1, hs2⟩, ⟨kvsT, hd, hT⟩, hsd, hnd, hDl, hmb, hone, htwo, hrows, kNone, kSome⟩ := h
    have nd := sc_law_fit.nd
    refine ⟨_, (pss_cons (ps_par (i := 5) (j := 6) rfl nd rfl rfl (by decide) rfl rfl (pa_cons pe_dnewK (pa_cons (pe_lst (pa_cons (pe_tup (pa_cons (pv 3) (pa_cons (pv 4) (pa_nil)))) (pa_nil))) (pa_nil))) (by rfl))
      (pss_cons (ps_while PassesOwn.never (pt_cmpR (op_neD hr.units) (pv 6) (pe_lst (pa_nil)) (nomark _)) (pss_cons (ps_asg (pe_bm0 PySem.F.plainAttrs_list PySem.F.slot_list_pop PySem.F.type_list_pop mt_pop (pv 6)) (pg_tup (by rfl) (pgs_cons (pg_name (i := 7) nd rfl (Or.inl rfl)) (pgs_cons (pg_name (i := 8) nd rfl (Or.inl rfl)) (pgs_nil)))))
      (pss_cons (ps_for PassesOwn.never rfl (pi_list (pe_lst (pa_cons (pe_tup (pa_cons (pv 7) (pa_cons (pv 8) (pa_nil)))) (pa_cons (pe_tup (pa_cons (pv 8) (pa_cons (pv 7) (pa_nil)))) (pa_nil))))) (pg_tup (by rfl) (pgs_cons (pg_name (i := 9) nd rfl (Or.inl rfl)) (pgs_cons (pg_name (i := 10) nd rfl (Or.inl rfl)) (pgs_nil)))) (pss_one (ps_if (pt_cmpR op_ne (pe_dget2 (hu_of hr) (pv 5) (pv 9) (pv 10) ⟨rfl, rfl, rfl, rfl⟩) (pv 10) (nomark _)) (pss_one (ps_ret pe_non)) pss_nil)))
      (pss_one (ps_if (pt_cmp (pc_dnotin (hu_of hr) (pv 7) (pv 5))) (pss_cons (ps_asg (pe_tup (pa_cons (pv 8) (pa_cons (pv 7) (pa_nil)))) (pg_tup (by rfl) (pgs_cons (pg_sub (pv 5) (pv 7) (set_dict (hu_of hr)) (fun _ => rfl)) (pgs_cons (pg_sub (pv 5) (pv 8) (set_dict (hu_of hr)) (fun _ => rfl)) (pgs_nil)))))
      (pss_one (ps_lock (ps_for PassesOwn.never rfl (pi_keys (pv 1)) (pg_name (i := 11) nd rfl (Or.inl rfl)) (pss_one (ps_if (pt_val (pe_call (ok_law_cross T) (hr.mono (by decide)) rfl T.m_law_cross T.F_law_cross.kp T.b_law_cross .nil pass0 (pa_cons (pv 0) (pa_cons (pv 11) (pa_cons (pv 2) (pa_nil)))))) (pss_one (ps_expr (pe_bm PySem.F.plainAttrs_list PySem.F.slot_list_append PySem.F.type_list_append mt_append (pv 6) (pa_cons (pe_tup (pa_cons (pe_ix ix_list (pe_dget (hu_of hr) (pv 1) (pv 11) (fun _ _ => rfl)) (pv 7) (fun _ _ => rfl)) (pa_cons (pe_ix ix_list (pe_dget (hu_of hr) (pv 1) (pv 11) (fun _ _ => rfl)) (pv 8) (fun _ _ => rfl)) (pa_nil)))) (pa_nil))))) pss_nil)))))) pss_nil)))))
      (pss_one (ps_ret (pv 5))))), ?_⟩
    have big : sizeLine ≥ 1000000 := by decide
    intro pd hpd
    have sA : Same H (upd H pd (.dK [])) := same_new (Same.refl _) hpd
    refine ⟨_, rfl, _, rfl, by show 2 ≤ sizeLine; omega, fun t0 ht0 => ⟨by show 1 ≤ sizeLine; omega, fun td htd => ?_⟩⟩
    have ht00 := Same.free sA ht0
    have sB : Same H (upd (upd H pd (.dK [])) t0 (.tup [.int one, .int two])) := same_new sA ht00
    have htd0 := Same.free sB htd
    have sC : Same H (upd (upd (upd H pd (.dK [])) t0 (.tup [.int one, .int two])) td (.lst [.ref t0])) := same_new sB htd0
    have hpt0 : pd ≠ t0 := ne_free upd_same ht0
    have hpdt : pd ≠ td := ne_free (o := .dK []) (by rw [upd_ne hpt0, upd_same]) htd
    have ht0d : t0 ≠ td := ne_free upd_same htd
    refine ⟨_, _, rfl, ?_⟩
    let ts := xts cr dk DT
    have htsl : ts.length ≤ 26 := Nat.le_trans (xts_len cr dk DT) hDl
    let St : Nat → L2.St → Hp → Prop := fun μ σ H1 => ∃ (kvs : List (Key × V)) (f : PF) (us : List Addr) (W : List (Nat × Nat)) (o7 o8 o9 o10 o11 : Option V), σ = [some (.ref sc), some (.ref d), some (.str (sgn dk)), some (iv one), some (iv two), some (.ref pd), some (.ref td), o7, o8, o9, o10, o11] ∧ Same H H1 ∧
      H1 pd = some (.dK kvs) ∧ H1 td = some (.lst (us.map V.ref)) ∧ PrsAt H1 us W ∧ KvOk kvs m f ∧ PInv m f ∧ NearlyBy ts f W ∧ (∀ q ∈ W, q.1 < m ∧ q.2 < m) ∧ W.length ≤ 1 + 26 * kvs.length ∧ μ = (m - kvs.length) * 30 + W.length
    refine ⟨St, ⟨_, [], fun _ => none, [t0], [(one, two)], none, none, none, none, none, rfl, sC, by rw [upd_ne hpdt, upd_ne hpt0, upd_same], upd_same, ⟨rfl, fun i t q a b => ?_⟩, KvOk.nil m, ⟨fun a b e => (by cases e), fun a b e => (by cases e)⟩, fun t _ a b e => (by cases e), fun q hq => ?_, by show 1 ≤ 1 + 26 * 0; omega, rfl⟩, ?_⟩
    · cases i with
      | zero =>
        have : t0 = t := by simpa using a
        subst this
        have : (one, two) = q := Option.some.inj b
        subst this
        rw [upd_ne ht0d, upd_same]
        rfl
      | succ i => simp at a
    · rw [List.mem_singleton.mp hq]
      exact ⟨hone, htwo⟩
    rintro μ σ H1 ⟨kvs, f, us, W, o7, o8, o9, o10, o11, rfl, s1, hP, hTd, hus, hK, hI, hN, hW, hWl, rfl⟩
    refine ⟨_, rfl, by show 0 ≤ sizeLine; omega, fun l hl => ?_⟩
    have s2 : Same H1 (upd H1 l (.lst [])) := same_new (Same.refl _) hl
    have hl2 := upd_same (H := H1) (a := l) (o := HO.lst [])
    have hP2 := s2 _ _ hP
    have hTd2 := s2 _ _ hTd
    have hus2 := hus.same s2
    have s12 := same_new (o := HO.lst []) s1 (Same.free s1 hl)
    clear s2
    generalize upd H1 l (.lst []) = H2 at hl2 hP2 hTd2 hus2 s12 ⊢
    refine ⟨_, _, .lst (SqL.of hTd2) (dp_prs hus2), .lst (SqL.of hl2) (dp_prs (ts := []) (W := []) ⟨rfl, fun i t q a b => (by simp at a)⟩), shaped_prs _, shaped_prs _, _, rfl, ?_⟩
    rw [eqv_nilP]
    by_cases hWe : W = []
    · rw [show (!decide (W = [])) = false from by simp [hWe]]
      refine iteF ?_
      subst hWe
      exact ⟨_, rfl, kSome _ pd kvs f s12 hpd hP2 hK hI hN.done⟩
    rw [show (!decide (W = [])) = true from by simp [hWe]]
    refine iteT (B := _) ?_
    refine ⟨fun σ' H' => ∃ μ', μ' < (m - kvs.length) * 30 + W.length ∧ St μ' σ' H', fun σ' H' h => h, ?_⟩
    -- the last pair
    obtain ⟨W0, x, y, rfl⟩ : ∃ W0 x y, W = W0 ++ [(x, y)] := ⟨W.dropLast, (W.getLast hWe).1, (W.getLast hWe).2, (List.dropLast_concat_getLast hWe).symm⟩
    obtain ⟨us0, t, rfl⟩ : ∃ us0 t, us = us0 ++ [t] := by
      have hne : us ≠ [] := fun e => by
        have := hus.1
        rw [e] at this
        simp at this
      exact ⟨us.dropLast, us.getLast hne, (List.dropLast_concat_getLast hne).symm⟩
    have hul : us0.length = W0.length := by have := hus.1; simpa using this
    have hxy := hW (x, y) (by simp)
    have ht : H2 t = some (.tup (pr2 (x, y))) := hus2.2 us0.length t (x, y) (by simp) (by rw [hul]; simp)
    have hus0 : PrsAt H2 us0 W0 := ⟨hul, fun i u q a b => hus2.2 i u q (by rw [app_getElem? (List.getElem?_eq_some_iff.mp a).1]; exact a) (by rw [app_getElem? (List.getElem?_eq_some_iff.mp b).1]; exact b)⟩
    have htd00 : H td = none := htd0
    refine ⟨_, rfl, .inl ⟨rfl, _, SqL.of hTd2⟩, td, _, .ref t, rfl, rfl, hTd2, by simp, ?_⟩
    have edl : ((us0 ++ [t]).map V.ref).dropLast = us0.map V.ref := by rw [List.map_append]; simp
    rw [edl]
    have htt : t ≠ td := ne_of ht hTd2 (by intro z; cases z)
    have s13 : Same H (upd H2 td (.lst (us0.map V.ref))) := same_new s12 htd00
    have hT3 := upd_same (H := H2) (a := td) (o := HO.lst (us0.map V.ref))
    have hP3 : upd H2 td (.lst (us0.map V.ref)) pd = some (.dK kvs) := by rw [upd_ne hpdt]; exact hP2
    have ht3 : upd H2 td (.lst (us0.map V.ref)) t = some (.tup (pr2 (x, y))) := by rw [upd_ne htt]; exact ht
    have hus3 : PrsAt (upd H2 td (.lst (us0.map V.ref))) us0 W0 := ⟨hul, fun i u q a b => by
      have := hus0.2 i u q a b
      rw [upd_ne (ne_of this hTd2 (by intro z; cases z))]
      exact this⟩
    generalize upd H2 td (.lst (us0.map V.ref)) = H3 at s13 hT3 hP3 ht3 hus3 ⊢
    refine ⟨t, _, rfl, SqT.of ht3, rfl, _, _, rfl, _, _, rfl, rfl, ?_⟩
    -- the two checks
    refine ⟨_, rfl, _, rfl, by show 2 ≤ sizeLine; omega, fun t1 ht1 => ⟨_, rfl, _, rfl, by show 2 ≤ sizeLine; omega, fun t2 ht2 => ⟨by show 2 ≤ sizeLine; omega, fun l2 hl2' => ?_⟩⟩⟩
    have q1 : Same H3 (upd H3 t1 (.tup [iv x, iv y])) := same_new (Same.refl _) ht1
    have q2 : Same H3 (upd (upd H3 t1 (.tup [iv x, iv y])) t2 (.tup [iv y, iv x])) := same_new q1 (Same.free q1 ht2)
    have q3 : Same H3 (upd (upd (upd H3 t1 (.tup [iv x, iv y])) t2 (.tup [iv y, iv x])) l2 (.lst [.ref t1, .ref t2])) := same_new q2 (Same.free q2 hl2')
    have n12 : t1 ≠ t2 := ne_free upd_same ht2
    have n1l : t1 ≠ l2 := ne_free (o := .tup [iv x, iv y]) (by rw [upd_ne n12, upd_same]) hl2'
    have n2l : t2 ≠ l2 := ne_free upd_same hl2'
    have v1 : upd (upd (upd H3 t1 (.tup [iv x, iv y])) t2 (.tup [iv y, iv x])) l2 (.lst [.ref t1, .ref t2]) t1 = some (.tup (pr2 (x, y))) := by rw [upd_ne n1l, upd_ne n12, upd_same]; rfl
    have v2 : upd (upd (upd H3 t1 (.tup [iv x, iv y])) t2 (.tup [iv y, iv x])) l2 (.lst [.ref t1, .ref t2]) t2 = some (.tup (pr2 (y, x))) := by rw [upd_ne n2l, upd_same]; rfl
    have v3 := upd_same (H := upd (upd H3 t1 (.tup [iv x, iv y])) t2 (.tup [iv y, iv x])) (a := l2) (o := HO.lst [.ref t1, .ref t2])
    have s14 := s13.trans q3
    generalize upd (upd (upd H3 t1 (.tup [iv x, iv y])) t2 (.tup [iv y, iv x])) l2 (.lst [.ref t1, .ref t2]) = H4 at q3 v1 v2 v3 s14 ⊢
    clear q1 q2 n12 n1l n2l
    have hP4 := q3 _ _ hP3
    have hT4 := q3 _ _ hT3
    have hus4 := hus3.same q3
    have hget : ∀ a v, (valV kvs (.inl (a : Nat))).getD v = match f a with | some b => iv b | none => v := fun a v => hK.get a v
    refine ⟨l2, rfl, ⟨_, SqL.of v3⟩, for_it (walk_list (xs := [.ref t1, .ref t2])) (fun i σ H5 => (∃ a b, σ = [some (.ref sc), some (.ref d), some (.str (sgn dk)), some (iv one), some (iv two), some (.ref pd), some (.ref td), some (iv x), some (iv y), a, b, o11]) ∧ H5 = H4 ∧ (0 < i → f x = none ∨ f x = some y) ∧ (1 < i → f y = none ∨ f y = some x))
      ⟨⟨_, _, rfl⟩, rfl, fun h => absurd h (Nat.not_lt_zero _), fun h => absurd h (by omega)⟩ (fun i σ H5 _ h => by rw [h.2.1]; exact SqL.of v3) (fun i z σ H5 H6 hi h y' => ?_) (fun σ H5 h => ?_)⟩
    · obtain ⟨⟨a, b, rfl⟩, rfl, c1, c2⟩ := h
      obtain ⟨rfl, hz⟩ := y'
      have hi2 : i < 2 := hi
      obtain ⟨u, v, tz, rfl, ez, hstep⟩ : ∃ (u v : Nat) (tz : Addr), z = .ref tz ∧ H6 tz = some (.tup (pr2 (u, v))) ∧ (f u = none ∨ f u = some v → (0 < i + 1 → f x = none ∨ f x = some y) ∧ (1 < i + 1 → f y = none ∨ f y = some x)) := by
        have h01 : i = 0 ∨ i = 1 := by omega
        rcases h01 with rfl | rfl
        · exact ⟨x, y, t1, (Option.some.inj hz).symm, v1, fun h => ⟨fun _ => h, fun h => absurd h (by omega)⟩⟩
        · exact ⟨y, x, t2, (Option.some.inj hz).symm, v2, fun h => ⟨fun _ => c1 (by omega), fun _ => h⟩⟩
      refine ⟨tz, _, rfl, SqT.of ez, rfl, _, _, rfl, _, _, rfl, rfl, ?_⟩
      refine ⟨_, rfl, pd, rfl, .inl ⟨_, .inl hP4⟩, _, rfl, _, rfl, _, DGet.k (k := Sum.inl (u : Int)) hP4, _, rfl, ?_⟩
      rw [hget]
      cases hfu : f u with
      | none =>
        refine ⟨rfl, false, by simp, iteF ?_⟩
        exact ⟨⟨_, _, rfl⟩, rfl, hstep (.inl hfu)⟩
      | some b' =>
        by_cases e : b' = v
        · subst e
          refine ⟨rfl, false, by simp, iteF ?_⟩
          exact ⟨⟨_, _, rfl⟩, rfl, hstep (.inr hfu)⟩
        · refine ⟨rfl, true, by simp; omega, iteT (B := _) ?_⟩
          exact kNone _ s14
    · obtain ⟨⟨a, b, rfl⟩, rfl, c1, c2⟩ := h
      have cx := c1 (by show 0 < 2; omega)
      have cy := c2 (by show 1 < 2; omega)
      refine ⟨_, rfl, _, rfl, pd, _, rfl, DGet.k (k := Sum.inl (x : Int)) hP4, _, rfl, ?_⟩
      rw [hK.val]
      have hkl := hK.len
      rw [List.length_append] at hWl
      have hWl' : W0.length + 1 ≤ 1 + 26 * kvs.length := hWl
      have hW0 : ∀ q ∈ W0, q.1 < m ∧ q.2 < m := fun q hq => hW q (List.mem_append_left _ hq)
      cases hfx : f x with
      | some b' =>
        have e : b' = y := by
          rcases cx with h | h
          · rw [h] at hfx; cases hfx
          · rw [h] at hfx; exact (Option.some.inj hfx).symm
        subst e
        refine iteF ?_
        refine ⟨_, ?_, kvs, f, us0, W0, _, _, _, _, _, rfl, s14, hP4, hT4, hus4, hK, hI, near_old hI hN hfx, hW0, by omega, rfl⟩
        rw [List.length_append]
        show (m - kvs.length) * 30 + W0.length < (m - kvs.length) * 30 + (W0.length + 1)
        omega
      | none =>
        refine iteT (B := _) ?_
        have hfy := none_y hI hfx cy
        refine ⟨_, rfl, _, rfl, by show 2 ≤ sizeLine; omega, fun tq htq => ?_⟩
        have hptq : pd ≠ tq := ne_free hP4 htq
        have r1 : Same H5 (upd H5 tq (.tup [iv y, iv x])) := same_new (Same.refl _) htq
        have s15 := s14.trans r1
        have hP5 := r1 _ _ hP4
        have hT5 := r1 _ _ hT4
        have hus5 := hus4.same r1
        have htup := upd_same (H := H5) (a := tq) (o := HO.tup [iv y, iv x])
        generalize upd H5 tq (.tup [iv y, iv x]) = H6 at r1 s15 hP5 hT5 hus5 htup ⊢
        have hK2 := (hK.put y hxy.1).put x hxy.2
        have hl1 : (putK kvs (.inl (x : Int)) (iv y)).length = kvs.length + 1 := by rw [putK_new _ (by rw [hK.val, hfx]; rfl), List.length_append]; rfl
        have hl2 : kvs.length + 1 ≤ (putK (putK kvs (.inl (x : Int)) (iv y)) (.inl (y : Int)) (iv x)).length := by rw [← hl1]; exact le_putK _ _ _
        have hkl2 := hK2.len
        refine ⟨tq, _, rfl, SqT.of htup, rfl, _, _, rfl, _, rfl, _, rfl, pd, _, rfl, DPut.k (k := Sum.inl (x : Int)) hP5 (by omega), _, _, rfl, _, rfl, _, rfl, pd, _, rfl, DPut.k (k := Sum.inl (y : Int)) upd_same (by omega), rfl, ?_⟩
        have s16 : Same H (upd (upd H6 pd (.dK (putK kvs (.inl (x : Int)) (iv y)))) pd (.dK (putK (putK kvs (.inl (x : Int)) (iv y)) (.inl (y : Int)) (iv x)))) := same_new (same_new s15 hpd) hpd
        have hP6 := upd_same (H := upd H6 pd (.dK (putK kvs (.inl (x : Int)) (iv y)))) (a := pd) (o := HO.dK (putK (putK kvs (.inl (x : Int)) (iv y)) (.inl (y : Int)) (iv x)))
        have hT6 : upd (upd H6 pd (.dK (putK kvs (.inl (x : Int)) (iv y)))) pd (.dK (putK (putK kvs (.inl (x : Int)) (iv y)) (.inl (y : Int)) (iv x))) td = some (.lst (us0.map V.ref)) := by rw [upd_ne hpdt.symm, upd_ne hpdt.symm]; exact hT5
        have hus6 : PrsAt (upd (upd H6 pd (.dK (putK kvs (.inl (x : Int)) (iv y)))) pd (.dK (putK (putK kvs (.inl (x : Int)) (iv y)) (.inl (y : Int)) (iv x)))) us0 W0 := ⟨hul, fun i u q a b => by
          have := hus5.2 i u q a b
          have hne : u ≠ pd := ne_of this hP5 (by intro z; cases z)
          rw [upd_ne hne, upd_ne hne]
          exact this⟩
        generalize upd (upd H6 pd (.dK (putK kvs (.inl (x : Int)) (iv y)))) pd (.dK (putK (putK kvs (.inl (x : Int)) (iv y)) (.inl (y : Int)) (iv x))) = H7 at s16 hP6 hT6 hus6 ⊢
        generalize putK (putK kvs (.inl (x : Int)) (iv y)) (.inl (y : Int)) (iv x) = kv2 at hP6 hK2 hl2 hkl2 ⊢
        have hdtd : d ≠ td := ne_free hd htd0
        have hdpd : d ≠ pd := ne_free hd hpd
        refine ⟨d, .dK kvsT, s16 _ _ hd, True.intro, fun od => ?_⟩
        refine ⟨_, rfl, d, od, rfl, .inl ⟨kvsT, upd_same, for_it walk_keys (fun i σ H9 => (∃ o, σ = [some (.ref sc), some (.ref d), some (.str (sgn dk)), some (iv one), some (iv two), some (.ref pd), some (.ref td), some (iv x), some (iv y), a, b, o]) ∧ KeepBut d H H9 ∧ H9 d = some (.frz od (.dK kvsT)) ∧ H9 pd = some (.dK kv2) ∧ ∃ us2 : List Addr, H9 td = some (.lst (us2.map V.ref)) ∧ PrsAt H9 us2 (W0 ++ (xts cr dk (DT.take i)).map fun t => (t.getD x 0, t.getD y 0)))
          ⟨⟨_, rfl⟩, fun c o hc h => by rw [upd_ne hc]; exact s16 _ _ h, upd_same, by rw [upd_ne hdpd.symm]; exact hP6, us0, by rw [upd_ne hdtd.symm]; exact hT6, ?_⟩ (fun i σ H9 _ h => h.2.2.1) (fun i z σ H9 H10 hi h y' => ?_) (fun σ H9 h => ?_)⟩⟩
        · have e0 : W0 ++ (xts cr dk (DT.take 0)).map (fun t => (t.getD x 0, t.getD y 0)) = W0 := by
            show W0 ++ [] = W0
            simp
          rw [e0]
          refine ⟨hul, fun i u q a b => ?_⟩
          have := hus6.2 i u q a b
          rw [upd_ne (ne_of this (s16 _ _ hd) (by intro z; cases z))]
          exact this
        · obtain ⟨⟨o, rfl⟩, kb, hd9, hP9, us2, hT9, hus9⟩ := h
          obtain ⟨rfl, kk, vv, hkk, rfl⟩ := y'
          have hiD : i < DT.length := by rw [← hT.1]; exact hi
          have hDT : DT[i]? = some DT[i] := List.getElem?_eq_getElem hiD
          generalize DT[i] = q at hDT
          obtain ⟨r, ekv, hr0⟩ := hT.2 i _ q hkk hDT
          cases ekv
          obtain ⟨r', hv', hr0'⟩ := hT.get hnd hDT
          have err : r' = r := by
            have := valV_at (i := i) (k := (Sum.inr (sgn q.1) : Key)) (v := .ref r) (by rw [hT.keys]; exact sgn_keys_nd hnd) hkk
            rw [this] at hv'
            injection hv' with hv'
            injection hv' with hv'
            exact hv'.symm
          subst err
          have hrd : r' ≠ d := ne_of hr0 hd (by intro z; cases z)
          have hr9 := kb _ _ hrd hr0
          have hq := hrows q (List.mem_of_getElem? hDT)
          have hpld : pl ≠ d := ne_of hs2 hd (by intro z; cases z)
          refine ⟨_, rfl, _, rfl, _, rfl, sc, q.1, dk, ks, cr, p, rfl, ⟨pl, tw, kb _ _ hsd hs1, kb _ _ hpld hs2⟩, _, rfl, iteB _ (fun hxr => ?_) (fun hxr => ?_)⟩
          · have dg : DGet H10 d (.str (sgn q.1)) (some (.ref r')) := .inl ⟨kvsT, Sum.inr (sgn q.1), .inr ⟨od, hd9⟩, rfl, hv'.symm⟩
            refine ⟨_, rfl, .inl ⟨rfl, _, SqL.of hT9⟩, _, rfl, _, rfl, d, _, rfl, dg, _, rfl, r', _, _, _, rfl, rfl, SqL.of hr9, iv_at (by rw [hq.1]; exact hxy.1), _, rfl, _, rfl, d, _, rfl, dg, _, rfl, r', _, _, _, rfl, rfl, SqL.of hr9, iv_at (by rw [hq.1]; exact hxy.2), by show 2 ≤ sizeLine; omega, fun t9 ht9 => ?_⟩
            have h9t : td ≠ t9 := ne_free hT9 ht9
            have h9d : d ≠ t9 := ne_free hd9 ht9
            have h9p : pd ≠ t9 := ne_free hP9 ht9
            have hT9' : upd H10 t9 (.tup [iv (q.2.getD x 0), iv (q.2.getD y 0)]) td = some (.lst (us2.map V.ref)) := by rw [upd_ne h9t]; exact hT9
            have h9n : H t9 = none := by
              cases e : H t9 with
              | none => rfl
              | some o => rw [kb t9 o h9d.symm e] at ht9; cases ht9
            have hul2 := hus9.1
            refine ⟨td, _, _, rfl, rfl, hT9', ?_, ⟨_, rfl⟩, fun c o hc h => ?_, by rw [upd_ne hdtd, upd_ne h9d]; exact hd9, by rw [upd_ne hpdt, upd_ne h9p]; exact hP9, us2 ++ [t9], by rw [upd_same, List.map_append]; rfl, ?_⟩
            · rw [List.length_map, hul2, List.length_append, List.length_map]
              have := xts_len cr dk (DT.take i)
              rw [List.length_take] at this
              omega
            · rw [upd_ne (ne_free h htd0), upd_ne (ne_free h h9n)]
              exact kb c o hc h
            · rw [xts_succ hDT, if_pos hxr, List.map_append, ← List.append_assoc]
              refine ⟨by rw [List.length_append, List.length_append, hul2]; rfl, fun j u pp a b => ?_⟩
              have hu : upd H10 t9 (.tup [iv (q.2.getD x 0), iv (q.2.getD y 0)]) u = some (.tup (pr2 pp)) := by
                by_cases hj : j < us2.length
                · rw [app_getElem? hj] at a
                  rw [List.getElem?_append_left (by rw [← hul2]; exact hj)] at b
                  have := hus9.2 j u pp a b
                  rw [upd_ne (ne_free this ht9)]
                  exact this
                · have hj' : j = us2.length := by
                    have := (List.getElem?_eq_some_iff.mp a).1
                    simp at this
                    omega
                  rw [List.getElem?_append_right (by omega)] at a
                  rw [List.getElem?_append_right (by rw [← hul2]; omega)] at b
                  rw [hj', Nat.sub_self] at a
                  rw [hj', hul2, Nat.sub_self] at b
                  have a2 : t9 = u := by simpa using a
                  have b2 : (q.2.getD x 0, q.2.getD y 0) = pp := Option.some.inj b
                  rw [← a2, ← b2, upd_same]
                  rfl
              rw [upd_ne (ne_of hu hT9' (by intro z; cases z))]
              exact hu
          · refine ⟨⟨_, rfl⟩, kb, hd9, hP9, us2, hT9, ?_⟩
            rw [xts_succ hDT, hxr]
            simpa using hus9
        · obtain ⟨⟨o, rfl⟩, kb, hd9, hP9, us2, hT9, hus9⟩ := h
          rw [hT.1, List.take_of_length_le (Nat.le_refl _)] at hus9
          have s20 : Same H (upd H9 d (.dK kvsT)) := fun c o' h => by
            by_cases e : c = d
            · subst e
              rw [upd_same, ← hd, h]
            · rw [upd_ne e]
              exact kb c o' e h
          have hWl2 : (W0 ++ ts.map fun t => (t.getD x 0, t.getD y 0)).length = W0.length + ts.length := by rw [List.length_append, List.length_map]
          refine ⟨hd9, _, ?_, kv2, both f x y, us2, W0 ++ ts.map (fun t => (t.getD x 0, t.getD y 0)), _, _, _, _, _, rfl, s20, by rw [upd_ne hdpd.symm]; exact hP9, by rw [upd_ne hdtd.symm]; exact hT9, ⟨hus9.1, fun j u pp a b => ?_⟩, hK2, pinv_both hI hfx hfy hxy.1 hxy.2, near_both hI hN hfx hfy, fun q hq => ?_, by rw [hWl2]; omega, rfl⟩
          · rw [hWl2, List.length_append]
            show (m - kv2.length) * 30 + (W0.length + ts.length) < (m - kvs.length) * 30 + (W0.length + 1)
            omega
          · have := hus9.2 j u pp a b
            rw [upd_ne (ne_of this hd9 (by intro z; cases z))]
            exact this
          · rcases List.mem_append.mp hq with h | h
            · exact hW0 q h
            · obtain ⟨t, ht, rfl⟩ := List.mem_map.mp h
              obtain ⟨q', hq', rfl, _⟩ := xts_mem ht
              exact ⟨(hrows q' hq').2 x hxy.1, (hrows q' hq').2 y hxy.2⟩
end
end Cw

/-! ## CwS -/
namespace Cw
open PySem PySem.Spec PyProof.Rows L2 CwR
def RowOk (m : Nat) (row : List Nat) : Prop := row.length = m ∧ (∀ p, p < m → row.getD p 0 < m) ∧ ∀ p, p < m → row.getD (row.getD p 0) 0 = p
def DoorsOk (m : Nat) (cr : List (Nat × Nat)) (DT : List (Nat × List Nat)) : Prop := ∀ (i : Nat) (q : Nat × List Nat), DT[i]? = some q → RowOk m q.2 ∧ ∀ t ∈ xts cr q.1 (DT.take i), ∀ p, p < m → q.2.getD (t.getD p 0) 0 = t.getD (q.2.getD p 0) 0
theorem DoorsOk.snoc {m : Nat} {cr : List (Nat × Nat)} {DT : List (Nat × List Nat)} (h : DoorsOk m cr DT) {c : Nat} {g : PF} (hI : PInv m g) (hC : ClosedBy (xts cr c DT) g) : DoorsOk m cr (DT ++ [(c, total g m)]) := fun i q e => by
  by_cases hi : i < DT.length
  · rw [app_getElem? hi] at e
    have := h i q e
    rw [List.take_append_of_le_length (by omega)]
    exact this
  · have hi' : i = DT.length := by
      have := (List.getElem?_eq_some_iff.mp e).1
      simp at this
      omega
    subst hi'
    rw [List.getElem?_append_right (Nat.le_refl _)] at e
    have : (c, total g m) = q := by simpa using e
    subst this
    rw [List.take_append_of_le_length (Nat.le_refl _), List.take_of_length_le (Nat.le_refl _)]
    refine ⟨⟨by show (total g m).length = m; unfold total; simp, fun p hp => total_lt hI hp, fun p hp => total_inv hI hp⟩, fun t ht p hp => ?_⟩
    obtain ⟨q', hq', rfl, _⟩ := xts_mem ht
    obtain ⟨j, hj⟩ := List.mem_iff_getElem?.mp hq'
    have := (h j q' hj).1
    exact total_comm hI hC ht this.2.1 this.2.2 hp
theorem TabK.snoc {H : Hp} {kvs : List (Key × V)} {DT : List (Nat × List Nat)} (h : TabK H kvs DT) {c : Nat} {row : List Nat} {r : Addr} (hr : H r = some (.lst (row.map iv))) : TabK H (kvs ++ [(.inr (sgn c), .ref r)]) (DT ++ [(c, row)]) := by
  refine ⟨by rw [List.length_append, List.length_append, h.1]; rfl, fun i kv q a b => ?_⟩
  by_cases hi : i < kvs.length
  · rw [app_getElem? hi] at a
    rw [app_getElem? (by rw [← h.1]; exact hi)] at b
    exact h.2 i kv q a b
  · have hi' : i = kvs.length := by
      have := (List.getElem?_eq_some_iff.mp a).1
      simp at this
      omega
    rw [List.getElem?_append_right (by omega)] at a
    rw [List.getElem?_append_right (by rw [← h.1]; omega)] at b
    rw [hi', Nat.sub_self] at a
    rw [hi', h.1, Nat.sub_self] at b
    have a2 : ((Sum.inr (sgn c) : Key), V.ref r) = kv := by simpa using a
    have b2 : (c, row) = q := by simpa using b
    exact ⟨r, by rw [← a2, ← b2], by rw [← b2]; exact hr⟩
theorem KeepBut.new {a : Addr} {H H1 : Hp} {c : Addr} {o : HO} (k : KeepBut a H H1) (e : H1 c = none) : KeepBut a H (upd H1 c o) := fun b u hb h => by
  have := k b u hb h
  rw [upd_ne (ne_free this e)]
  exact this
theorem PenAt.put {H : Hp} {pn cl c : Addr} {B : Nat} {kvs : List (Key × V)} {o : HO} (h : PenAt H pn cl B) (e : H c = some (.dK kvs)) (hc : c ≠ pn) : PenAt (upd H c o) pn cl B := by
  obtain ⟨xs, bg, lf, a, b, r⟩ := h
  exact ⟨xs, bg, lf, by rw [upd_ne hc.symm]; exact a, by rw [upd_ne (ne_of b e (by intro z; cases z))]; exact b, r⟩
section
variable {P : Program} {w : World} {K : PySem.W.Frag} {mg : Str → Option Value} {base : Heap}
def spLawDoors : Sp := fun vs H Q _ => ∃ (pn cl s : Addr) (m B : Nat) (ks : List Nat) (cr : List (Nat × Nat)) (p : Addr), vs = [.ref pn, .ref s, .int m] ∧ PenAt H pn cl B ∧ B ≤ 100000 ∧ SceneAt H s ks cr p ∧ pn ≠ s ∧ ks.Nodup ∧ ks.length ≤ 26 ∧ 0 < m ∧ m ≤ 10 ∧
  ∀ H' d DT, KeepBut pn H H' → PenAt H' pn cl (B + 41 * ks.length) → TabD H' d DT → DT.map (·.1) = ks → DoorsOk m cr DT → Q (.ref d) H'
theorem ok_law_doors (T : TF K mg) : FnOk P w K mg base CX0 3 T.f_law_doors T.d_law_doors ["_law_pen", "_law_scene_here", "_law_many"] (spLawDoors) := by
  refine T.F_law_doors.ok sc_law_doors (fun vs H Q E h => ?_) (fun cdv A outer s H vs Q E hr h => ?_)
  · obtain ⟨_, _, _, _, _, _, _, _, rfl, _⟩ := h
    rfl
  · obtain ⟨pn, cl, sc, m, B, ks, cr, p, rfl, hpen, hB, hsc, hps, hn, hk26, hm0, hm1, k⟩ := h
    have nd := sc_law_doors.nd
    refine ⟨_, (pss_cons (ps_set (i := 3) nd rfl (Or.inl rfl) pe_dnewK)
      (pss_cons (ps_for PassesOwn.never rfl (pi_str (pe_dget (hu_of hr) (pv 1) pe_str (fun _ _ => rfl))) (pg_name (i := 4) nd rfl (Or.inl rfl)) (pss_cons (ps_set (i := 5) nd rfl (Or.inr rfl) pe_dnewK)
      (pss_cons (ps_for PassesOwn.never rfl (pi_range1 rfl T.z_range (pa_cons (pe_call (ok_law_pick T) (hr.mono (by decide)) rfl T.m_law_pick T.F_law_pick.kp T.b_law_pick .nil pass0 (pa_cons (pv 0) (pa_cons (pe_lst (pa_cons (pv 2) (pa_cons (pe_op op_mul pe_int (pv 2)) (pa_cons pe_int (pa_cons pe_int (pa_nil)))))) (pa_nil)))) (pa_nil))) (pg_name (i := 6) nd rfl (Or.inl rfl)) (pss_cons (ps_set (i := 7) nd rfl (Or.inl rfl) (pe_call (ok_law_fit T) (hr.mono (by decide)) rfl T.m_law_fit T.F_law_fit.kp T.b_law_fit .nil pass0 (pa_cons (pv 1) (pa_cons (pv 3) (pa_cons (pv 4) (pa_cons (pe_call (ok_law_draw T) (hr.mono (by decide)) rfl T.m_law_draw T.F_law_draw.kp T.b_law_draw .nil pass0 (pa_cons (pv 0) (pa_cons (pv 2) (pa_nil)))) (pa_cons (pe_call (ok_law_draw T) (hr.mono (by decide)) rfl T.m_law_draw T.F_law_draw.kp T.b_law_draw .nil pass0 (pa_cons (pv 0) (pa_cons (pv 2) (pa_nil)))) (pa_nil))))))))
      (pss_one (ps_if (PW.pt (pw_and (pt_cmpR op_notN (pv 7) pe_non (nomark _)) (pw_and1 (pt_cmpR (op_eqD hr.units) (pe_lock (pe_lc (own := [("_law_place", 8)]) (g := (gName 8)) (tt := _) rfl nd (pi_keys (pv 7)) (blkOk_by (own := [("_law_place", 8)]) (N := n_law_doors) (sc := defScope s_law_doors) (by decide +kernel)) (fun _ _ _ _ _ => (pg_name (i := 8) nd rfl (by first | exact Or.inl rfl | exact Or.inr rfl))) (fun _ _ _ _ _ => pts_one (pt_cmp (pc_din (hu_of hr) (pv 8) (pv 5)))) (fun _ _ _ _ _ => (pv 8)))) (pe_lst (pa_nil)) (nomark _))))) (pss_one (ps_expr (pe_bm PySem.F.plainAttrs_dict PySem.F.slot_dict_update PySem.F.type_dict_update mt_update (pv 5) (pa_cons (pv 7) (pa_nil))))) pss_nil))))
      (pss_one (ps_dput (hu_of hr) (pv 3) (pv 4) (pe_lc (own := [("_law_place", 8)]) (g := (gName 8)) (tt := tYes) rfl nd (pi_range1 rfl T.z_range (pa_cons (pv 2) (pa_nil))) (blkOk_by (own := [("_law_place", 8)]) (N := n_law_doors) (sc := defScope s_law_doors) (by decide +kernel)) (fun _ _ _ _ _ => (pg_name (i := 8) nd rfl (by first | exact Or.inl rfl | exact Or.inr rfl))) (fun _ _ _ _ _ => pts_nil) (fun _ _ _ _ _ => (pe_dget2 (hu_of hr) (pv 5) (pv 8) (pv 8) ⟨rfl, rfl, rfl, rfl⟩))) rfl)))))
      (pss_one (ps_ret (pv 3))))), ?_⟩
    have big : sizeLine ≥ 1000000 := by decide
    obtain ⟨pl, tw, hs1, hs2⟩ := id hsc
    intro d hd
    have hpd : pn ≠ d := by
      obtain ⟨_, _, _, e, _⟩ := hpen
      exact ne_free e hd
    have hpl : pl ≠ pn := by
      obtain ⟨_, _, _, e, _⟩ := hpen
      exact ne_of hs2 e (by intro z; cases z)
    have scene : ∀ H', KeepBut pn H H' → SceneAt H' sc ks cr p := fun H' kb => ⟨pl, tw, kb _ _ hps.symm hs1, kb _ _ hpl hs2⟩
    have s1 : Same H (upd H d (.dK [])) := same_new (Same.refl _) hd
    refine ⟨_, rfl, sc, _, rfl, sc_kinds (s1 _ _ hs1), txt ks, rfl, for_it walk_str (fun i σ H1 => (∃ o4 o5 o6 o7, σ = [some (.ref pn), some (.ref sc), some (iv m), some (.ref d), o4, o5, o6, o7, none]) ∧ KeepBut pn H H1 ∧ PenAt H1 pn cl (B + 41 * i) ∧ ∃ kvs DT, H1 d = some (.dK kvs) ∧ TabK H1 kvs DT ∧ DT.map (·.1) = ks.take i ∧ DoorsOk m cr DT)
      ⟨⟨_, _, _, _, rfl⟩, (KeepBut.refl _ _).same s1, hpen.same s1, [], [], upd_same, ⟨rfl, fun i kv q a b => (by simp at a)⟩, rfl, fun i q e => (by simp at e)⟩ (fun _ _ _ _ _ => True.intro) (fun i z σ H1x H1 hi h y => ?_) (fun σ H1 h => ?_)⟩
    · obtain ⟨⟨o4, o5, o6, o7, rfl⟩, kb1, hp1, kvs, DT, hd1, hT1, hDT, hOk⟩ := h
      obtain ⟨rfl, c, hc, rfl⟩ := y
      have hc' := txt_at hc
      rw [txt_size] at hi
      have hDl : DT.length ≤ 26 := by
        have := congrArg List.length hDT
        rw [List.length_map, List.length_take] at this
        omega
      have hDi : DT.length = i := by
        have := congrArg List.length hDT
        rw [List.length_map, List.length_take] at this
        omega
      have hcn : ¬ c ∈ DT.map (·.1) := fun hm => by
        rw [hDT] at hm
        obtain ⟨j, hj⟩ := List.mem_iff_getElem?.mp hm
        have hj2 := (List.getElem?_eq_some_iff.mp hj).1
        rw [List.length_take] at hj2
        rw [List.getElem?_take_of_lt (by omega)] at hj
        have e1 := (List.getElem?_eq_some_iff.mp hj).2
        have e2 := (List.getElem?_eq_some_iff.mp hc').2
        have := (List.getElem_inj hn).mp (e1.trans e2.symm)
        omega
      have hTn : (DT.map (·.1)).Nodup := by
        rw [hDT]
        exact hn.sublist (List.take_sublist _ _)
      intro rd hrd
      have hdrd : d ≠ rd := ne_free hd1 hrd
      have hprd : pn ≠ rd := by
        obtain ⟨_, _, _, e, _⟩ := hp1
        exact ne_free e hrd
      have t1 : Same H1 (upd H1 rd (.dK [])) := same_new (Same.refl _) hrd
      refine ⟨_, rfl, _, rfl, _, rfl, _, _, rfl, rfl, .inl ⟨by decide, by decide⟩, by show 4 ≤ sizeLine; omega, fun l hl => ?_⟩
      have t2 : Same H1 (upd (upd H1 rd (.dK [])) l (.lst [iv m, .int (2 * (m : Int)), .int 1, .int 0])) := same_new t1 (Same.free t1 hl)
      have hrdl : rd ≠ l := ne_free upd_same hl
      refine ⟨pn, cl, l, B + 41 * i, _, rfl, hp1.same t2, by omega, upd_same, by show 0 < 4; omega, by show 4 < 1000000; omega, fun H2 r v kb2 hp2 hv => ?_⟩
      obtain ⟨n, rfl, hn20⟩ : ∃ n : Nat, v = iv n ∧ n ≤ 20 := by
        match r, hv with
        | 0, hv => exact ⟨m, (Option.some.inj hv).symm, by omega⟩
        | 1, hv => exact ⟨2 * m, (Option.some.inj hv).symm.trans (by show V.int (2 * (m : Int)) = V.int ((2 * m : Nat) : Int); rw [Int.natCast_mul]; rfl), by omega⟩
        | 2, hv => exact ⟨1, (Option.some.inj hv).symm, by omega⟩
        | 3, hv => exact ⟨0, (Option.some.inj hv).symm, by omega⟩
      have hrd2 : H2 rd = some (.dK []) := kb2 _ _ hprd.symm (by rw [upd_ne hrdl, upd_same])
      have hd2 : H2 d = some (.dK kvs) := kb2 _ _ hpd.symm (t2 _ _ hd1)
      have listsKeep : ∀ {Ha Hb : Hp}, KeepBut pn Ha Hb → PenAt Ha pn cl 1000000 → ∀ r xs, Ha r = some (.lst xs) → Hb r = some (.lst xs) := fun kb hp r xs h => by
        obtain ⟨_, _, _, e, _⟩ := hp
        exact kb r _ (ne_of h e (by intro z; cases z)) h
      have hT2 : TabK H2 kvs DT := (hT1.keep fun r xs h => t2 _ _ h).keep (listsKeep kb2 ((hp1.same t2).more (by omega)))
      have kb02 : KeepBut pn H H2 := (kb1.same t2).trans kb2
      refine ⟨n, rfl, by omega, by omega, for_it (walk_range (lo := 0) (n := n)) (fun j σ H3 => (∃ o6 o7, σ = [some (.ref pn), some (.ref sc), some (iv m), some (.ref d), some (.str (sgn c)), some (.ref rd), o6, o7, none]) ∧ KeepBut pn H H3 ∧ PenAt H3 pn cl (B + 41 * i + 1 + 2 * j) ∧ H3 d = some (.dK kvs) ∧ TabK H3 kvs DT ∧ ∃ kvr g, H3 rd = some (.dK kvr) ∧ KvOk kvr m g ∧ PInv m g ∧ ClosedBy (xts cr c DT) g)
        ⟨⟨_, _, rfl⟩, kb02, hp2, hd2, hT2, [], _, hrd2, KvOk.nil m, ⟨fun a b e => (by cases e), fun a b e => (by cases e)⟩, fun t _ a b e => (by cases e)⟩ (fun _ _ _ _ _ => True.intro) (fun j z σ H3x H3 hj h y => ?_) (fun σ H3 h => ?_)⟩
      · obtain ⟨⟨o6, o7, rfl⟩, kb3, hp3, hd3, hT3, kvr, g, hr3, hK, hI, hC⟩ := h
        obtain ⟨rfl, rfl⟩ := y
        refine ⟨_, rfl, _, rfl, _, rfl, _, rfl, _, rfl, pn, cl, _, m, rfl, hp3, by omega, hm0, by omega, fun H4 r1 kb4 hp4 hr1 => ?_⟩
        refine ⟨_, rfl, _, rfl, pn, cl, _, m, rfl, hp4, by omega, hm0, by omega, fun H5 r2 kb5 hp5 hr2 => ?_⟩
        have kb35 := kb4.trans kb5
        have hd5 := kb35 _ _ hpd.symm hd3
        have hr5 := kb35 _ _ hprd.symm hr3
        have hT5 := hT3.keep (listsKeep kb35 (hp3.more (by omega)))
        have kb05 := kb3.trans kb35
        have sdne : sc ≠ d := ne_free hs1 hd
        refine ⟨sc, d, ks, cr, p, DT, c, r1, r2, m, rfl, scene _ kb05, ⟨kvs, hd5, hT5⟩, sdne, hTn, hDl, by omega, hr1, hr2, fun q hq => ?_, fun H6 s6 => ?_, fun H6 pdd kvp f s6 hpd0 hp6 hK6 hI6 hC6 => ?_⟩
        · obtain ⟨j', hj'⟩ := List.mem_iff_getElem?.mp hq
          have := (hOk j' q hj').1
          exact ⟨this.1, this.2.1⟩
        · refine ⟨_, rfl, rfl, false, rfl, iteF (iteF ?_)⟩
          exact ⟨⟨_, _, rfl⟩, kb05.same s6, (hp5.same s6).more (by omega), s6 _ _ hd5, hT5.keep fun r xs h => s6 _ _ h, kvr, g, s6 _ _ hr5, hK, hI, hC⟩
        · refine ⟨_, rfl, rfl, true, rfl, iteT ?_⟩
          have hr6 := s6 _ _ hr5
          have hrp : rd ≠ pdd := ne_free hr5 hpd0
          have hkl := hK6.len
          refine ⟨pdd, .dK kvp, hp6, True.intro, fun od => ⟨_, rfl, pdd, od, rfl, .inl ⟨kvp, upd_same, fun D hD => ?_⟩⟩⟩
          have hfz := upd_same (H := H6) (a := pdd) (o := HO.frz od (.dK kvp))
          have hrL : upd H6 pdd (.frz od (.dK kvp)) rd = some (.dK kvr) := by rw [upd_ne hrp]; exact hr6
          have hLs : ∀ b o, b ≠ pdd → H6 b = some o → upd H6 pdd (.frz od (.dK kvp)) b = some o := fun b o hb h => by rw [upd_ne hb]; exact h
          generalize upd H6 pdd (.frz od (.dK kvp)) = HL at hD hfz hrL hLs ⊢
          have hDp : D ≠ pdd := (ne_free hfz hD).symm
          let key : Nat → Nat := fun i => natOf (kV (kvp.getD i (Sum.inl 0, V.non)).1)
          have hkey : ∀ i a v, kvp[i]? = some ((Sum.inl ((a : Nat) : Int) : Key), v) → key i = a := fun i a v e => by
            show natOf (kV (kvp.getD i (Sum.inl 0, V.non)).1) = a
            rw [getD_of e]
            show Int.toNat (a : Int) = a
            omega
          refine lc_fn walk_keys (fun i => (g (key i)).isSome) (fun i => iv (key i)) hD (by omega) (fun H7 s7 => s7 _ _ hfz) (fun i x H7 H8 kk N hi s7 y kt kf => ?_) (fun H7 s7 hD7 => ?_)
          · obtain ⟨rfl, kx, vx, hkx, rfl⟩ := y
            obtain ⟨a, rfl, ha, hfa⟩ := hK6.at hkx
            rw [hkey i a vx hkx] at kt kf
            refine ⟨rfl, _, rfl, _, rfl, rd, _, rfl, DGet.k (k := Sum.inl (a : Int)) (s7 _ _ hrL), _, rfl, ?_⟩
            rw [hK.val]
            cases hg : g a with
            | none => exact iteF (kf (by rw [hg]; rfl) _ (Same.refl _))
            | some b' => exact iteT ⟨_, rfl, kt (by rw [hg]; rfl) _ (Same.refl _)⟩
          · refine ⟨s7 _ _ hfz, by show 0 ≤ sizeLine; omega, fun l2 hl2 => ?_⟩
            have s68 : Same H6 (upd H7 pdd (.dK kvp)) := fun b o h => by
              by_cases e : b = pdd
              · subst e
                rw [upd_same, ← hp6, h]
              · rw [upd_ne e]
                exact s7 _ _ (hLs b o e h)
            have hD8 : upd H7 pdd (.dK kvp) D = some (.lst ((((List.range kvp.length).filter fun i => (g (key i)).isSome).map key).map iv)) := by
              rw [upd_ne hDp, hD7, List.map_map]
              rfl
            have s9 := s68.trans (same_new (Same.refl _) hl2 : Same _ (upd (upd H7 pdd (.dK kvp)) l2 (.lst [])))
            have hD9 := (same_new (Same.refl _) hl2 : Same _ (upd (upd H7 pdd (.dK kvp)) l2 (.lst []))) _ _ hD8
            have hl9 := upd_same (H := upd H7 pdd (.dK kvp)) (a := l2) (o := HO.lst [])
            generalize upd (upd H7 pdd (.dK kvp)) l2 (.lst []) = H9 at s9 hD9 hl9 ⊢
            refine ⟨_, _, dp_ints hD9, dp_ints (row := []) hl9, (shaped_flat (ints_lay _)).2, (shaped_flat (ints_lay _)).2, _, rfl, ?_⟩
            rw [PyData.eqv, eqvAll_ints]
            have kb9 := (kb05.same s6).same s9
            have pen9 := hp5.same (s6.trans s9)
            have hd9 := s9 _ _ (s6 _ _ hd5)
            have hr9 := s9 _ _ hr6
            have hT9 : TabK H9 kvs DT := hT5.keep fun r xs h => s9 _ _ (s6 _ _ h)
            refine ite2 (fun hL => ?_) (fun hL => ?_)
            · have hL := of_decide_eq_true hL
              have hdis : ∀ a, f a ≠ none → g a = none := fun a ha => by
                obtain ⟨i, v, hi⟩ := hK6.has ha
                cases hg : g a with
                | none => rfl
                | some b' =>
                  have hm : a ∈ ((List.range kvp.length).filter fun i => (g (key i)).isSome).map key := by
                    refine List.mem_map.mpr ⟨i, List.mem_filter.mpr ⟨List.mem_range.mpr (List.getElem?_eq_some_iff.mp hi).1, ?_⟩, hkey i a v hi⟩
                    rw [hkey i a v hi, hg]
                    rfl
                  rw [hL] at hm
                  cases hm
              have hkl2 := hK.len
              refine ⟨_, rfl, .inr (.inr (.inl ⟨rfl, .inl ⟨_, hr9⟩⟩)), _, rfl, rd, pdd, kvr, kvp, rfl, rfl, hr9, s9 _ _ hp6, hrp, by omega, ?_⟩
              refine ⟨⟨_, _, rfl⟩, fun b o hb h => ?_, (pen9.put hr9 hprd.symm).more (by omega), by rw [upd_ne hdrd]; exact hd9, hT9.keep fun r xs h => by rw [upd_ne (ne_of h hr9 (by intro z; cases z))]; exact h, _, _, upd_same, hK.merge hK6, pinv_join hI6 hI hdis, closed_join hC6 hC hdis⟩
              have : b ≠ rd := fun e => by
                rw [e] at h hb
                rw [kb1 rd o hb h] at hrd
                cases hrd
              rw [upd_ne this]
              exact kb9 b o hb h
            · exact ⟨⟨_, _, rfl⟩, kb9, pen9.more (by omega), hd9, hT9, kvr, g, hr9, hK, hI, hC⟩
      · obtain ⟨⟨o6, o7, rfl⟩, kb3, hp3, hd3, hT3, kvr, g, hr3, hK, hI, hC⟩ := h
        refine ⟨_, rfl, m, rfl, by omega, by omega, fun D hD => lc_fn (walk_range (lo := 0) (n := m)) (fun _ => true) (fun p => iv ((g p).getD p)) hD (by omega) (fun _ _ => True.intro) (fun q x H4 H5 kk N hq s4 y kt _ => ?_) (fun H4 s4 hD4 => ?_)⟩
        · obtain ⟨rfl, rfl⟩ := y
          have e0 : (0 : Int) + (q : Nat) = (q : Nat) := by omega
          simp only [e0]
          refine ⟨rfl, _, rfl, rd, rfl, .inl ⟨_, .inl (s4 _ _ hr3)⟩, _, rfl, _, rfl, _, DGet.k (k := Sum.inl (q : Int)) (s4 _ _ hr3), ?_⟩
          rw [hK.get]
          have := kt rfl _ (Same.refl _)
          cases hg : g q with
          | none => rw [hg] at this; exact this
          | some b' => rw [hg] at this; exact this
        · rw [filter_true fun _ _ => rfl] at hD4
          have hDl4 : H4 D = some (.lst ((total g m).map iv)) := by
            rw [hD4]
            unfold total
            rw [List.map_map]
            rfl
          have hd4 := s4 _ _ hd3
          have hT4 : TabK H4 kvs DT := hT3.keep fun r xs h => s4 _ _ h
          have hvn : valV kvs (Sum.inr (sgn c) : Key) = none := valV_none_of (by
            rw [hT4.keys]
            intro hm
            obtain ⟨b', hb', e⟩ := List.mem_map.mp hm
            injection e with e
            rw [sgn_inj] at e
            rw [e] at hb'
            exact hcn hb')
          have hDd : D ≠ d := ne_of hDl4 hd4 (by intro z; cases z)
          refine ⟨_, rfl, _, rfl, d, _, rfl, DPut.k (k := Sum.inr (sgn c)) hd4 (by rw [hT4.1]; omega), ?_⟩
          rw [putK_new _ hvn]
          refine ⟨⟨_, _, _, _, rfl⟩, fun b o hb h => ?_, ((hp3.same s4).put hd4 hpd.symm).more (by omega), _, DT ++ [(c, total g m)], upd_same, ?_, ?_, hOk.snoc hI hC⟩
          · rw [upd_ne (ne_free h hd)]
            exact s4 _ _ (kb3 b o hb h)
          · refine (hT4.keep fun r xs h => ?_).snoc ?_
            · rw [upd_ne (ne_of h hd4 (by intro z; cases z))]; exact h
            · rw [upd_ne hDd]; exact hDl4
          · rw [List.map_append, hDT, List.take_add_one, hc']
            rfl
    · obtain ⟨⟨o4, o5, o6, o7, rfl⟩, kb1, hp1, kvs, DT, hd1, hT1, hDT, hOk⟩ := h
      rw [txt_size] at hp1 hDT
      rw [List.take_of_length_le (Nat.le_refl _)] at hDT
      exact ⟨_, rfl, k _ d DT kb1 hp1 ⟨kvs, hd1, hT1⟩ hDT hOk⟩
end
end Cw

/-! ## CwU -/
namespace Cw
open PySem PySem.Spec PyProof.Rows L2 CwR
theorem PenAt.putL {H : Hp} {pn cl c : Addr} {B : Nat} {o : HO} (h : PenAt H pn cl B) (h1 : c ≠ pn) (h2 : c ≠ cl) : PenAt (upd H c o) pn cl B := by
  obtain ⟨xs, bg, lf, a, b, r⟩ := h
  exact ⟨xs, bg, lf, by rw [upd_ne h1.symm]; exact a, by rw [upd_ne h2.symm]; exact b, r⟩
theorem PenAt.here {H : Hp} {pn cl : Addr} {B : Nat} (h : PenAt H pn cl B) : (∃ kvs, H pn = some (.dK kvs)) ∧ ∃ xs, H cl = some (.lst xs) := by
  obtain ⟨xs, bg, lf, a, b, r⟩ := h
  exact ⟨⟨_, a⟩, ⟨_, b⟩⟩
theorem sorted_ext : ∀ {A B : List Nat}, A.Pairwise (· < ·) → B.Pairwise (· < ·) → (∀ x, x ∈ A ↔ x ∈ B) → A = B
  | [], [], _, _, _ => rfl
  | [], b :: B, _, _, h => absurd ((h b).mpr List.mem_cons_self) (by simp)
  | a :: A, [], _, _, h => absurd ((h a).mp List.mem_cons_self) (by simp)
  | a :: A, b :: B, hA, hB, h => by
    have hA' := List.pairwise_cons.mp hA
    have hB' := List.pairwise_cons.mp hB
    have e : a = b := by
      rcases List.mem_cons.mp ((h a).mp List.mem_cons_self) with h1 | h1
      · exact h1
      · rcases List.mem_cons.mp ((h b).mpr List.mem_cons_self) with h2 | h2
        · exact h2.symm
        · have := hB'.1 a h1
          have := hA'.1 b h2
          omega
    subst e
    rw [sorted_ext hA'.2 hB'.2 fun x => ⟨fun hx => ?_, fun hx => ?_⟩]
    · rcases List.mem_cons.mp ((h x).mp (List.mem_cons_of_mem _ hx)) with h1 | h1
      · have := hA'.1 x hx
        omega
      · exact h1
    · rcases List.mem_cons.mp ((h x).mpr (List.mem_cons_of_mem _ hx)) with h1 | h1
      · have := hB'.1 x hx
        omega
      · exact h1
theorem asc_self {zs : List Nat} (h : zs.Pairwise (· < ·)) (hl : Low zs) : asc zs = zs := sorted_ext (asc_lt zs) h fun x => ⟨fun hx => (asc_mem.mp hx).2, fun hx => asc_mem.mpr ⟨hl x hx, hx⟩⟩
theorem risingS_sgn : ∀ (zs : List Nat) (p : Nat), risingS (sgn p) (zs.map sgn) = true → (∀ z ∈ zs, p ≤ z) ∧ zs.Pairwise (· ≤ ·)
  | [], _, _ => ⟨fun z h => (by cases h), List.Pairwise.nil⟩
  | z :: zs, p, h => by
    have h' : (!ltCps [z] [p]) = true ∧ risingS (sgn z) (zs.map sgn) = true := by
      have : (!ltCps [z] [p] && risingS (sgn z) (zs.map sgn)) = true := h
      simpa using this
    obtain ⟨h1, h2⟩ := h'
    have hz : p ≤ z := by
      unfold ltCps at h1
      simp only [ltCps, Bool.and_false, Bool.or_false, Bool.not_eq_true', decide_eq_false_iff_not] at h1
      omega
    obtain ⟨i1, i2⟩ := risingS_sgn zs z h2
    refine ⟨fun w hw => ?_, List.pairwise_cons.mpr ⟨i1, i2⟩⟩
    rcases List.mem_cons.mp hw with rfl | hw
    · exact hz
    · have := i1 w hw
      omega
/-- sorted signs of a text without doubles -/
theorem sorted_signs {ys : List Str} {cs : List Nat} (hp : ys.Perm (cs.map sgn)) (hs : sortedS ys = true) (hn : cs.Nodup) : ∃ zs : List Nat, ys = zs.map sgn ∧ zs.Pairwise (· < ·) ∧ (∀ x, x ∈ zs ↔ x ∈ cs) ∧ zs.length = cs.length := by
  obtain ⟨zs, rfl⟩ : ∃ zs : List Nat, ys = zs.map sgn := by
    refine ⟨ys.map fun y => y.cps.toList.headD 0, ?_⟩
    rw [List.map_map]
    symm
    rw [show ys = ys.map (fun y => y) from by simp]
    rw [List.map_map]
    apply List.map_congr_left
    intro y hy
    obtain ⟨c, _, rfl⟩ := List.mem_map.mp (hp.mem_iff.mp (by simpa using hy))
    rfl
  have hmem : ∀ x, x ∈ zs ↔ x ∈ cs := fun x => by
    have h1 : sgn x ∈ zs.map sgn ↔ x ∈ zs := ⟨fun h => by
      obtain ⟨c, hc, e⟩ := List.mem_map.mp h
      rw [sgn_inj] at e
      exact e ▸ hc, fun h => List.mem_map_of_mem h⟩
    have h2 : sgn x ∈ cs.map sgn ↔ x ∈ cs := ⟨fun h => by
      obtain ⟨c, hc, e⟩ := List.mem_map.mp h
      rw [sgn_inj] at e
      exact e ▸ hc, fun h => List.mem_map_of_mem h⟩
    rw [← h1, ← h2]
    exact hp.mem_iff
  have hl : zs.length = cs.length := by have := hp.length_eq; simpa using this
  have hle : zs.Pairwise (· ≤ ·) := by
    cases zs with
    | nil => exact List.Pairwise.nil
    | cons z zs =>
      obtain ⟨a, b⟩ := risingS_sgn zs z hs
      exact List.pairwise_cons.mpr ⟨a, b⟩
  have hcn : (cs.map sgn).Nodup := by
    rw [List.nodup_iff_pairwise_ne, List.pairwise_map]
    exact hn.imp fun h e => h (sgn_inj.mp e)
  have hzn : zs.Nodup := by
    have h3 : (zs.map sgn).Nodup := hp.nodup_iff.mpr hcn
    rw [List.nodup_iff_pairwise_ne, List.pairwise_map] at h3
    exact h3.imp fun h e => h (by rw [e])
  refine ⟨zs, rfl, ?_, hmem, hl⟩
  have := hle.and hzn
  exact this.imp fun ⟨h1, h2⟩ => Nat.lt_of_le_of_ne h1 h2
def kindAt (fs st k : Nat) : Nat := 97 + (fs + st * k) % 26
theorem kinds_nd {fs st many : Nat} (hst : st = 1 ∨ st = 3 ∨ st = 5 ∨ st = 7) (hm : many ≤ 3) : ((List.range many).map (kindAt fs st)).Nodup := by
  rw [List.nodup_iff_pairwise_ne, List.pairwise_map]
  refine (List.nodup_range (n := many)).imp_of_mem ?_
  intro a b ha hb h e
  have ha := List.mem_range.mp ha
  have hb := List.mem_range.mp hb
  unfold kindAt at e
  have ha' : a = 0 ∨ a = 1 ∨ a = 2 := by omega
  have hb' : b = 0 ∨ b = 1 ∨ b = 2 := by omega
  rcases hst with rfl | rfl | rfl | rfl <;> rcases ha' with rfl | rfl | rfl <;> rcases hb' with rfl | rfl | rfl <;> omega
theorem kinds_low (fs st many : Nat) : Low ((List.range many).map (kindAt fs st)) := fun c hc => by
  obtain ⟨k, _, rfl⟩ := List.mem_map.mp hc
  rw [mem_lets]
  unfold kindAt
  omega
theorem lets_get {i : Nat} (h : i < 26) : lets[i]? = some (97 + i) := by
  unfold lets
  rw [List.getElem?_map, List.getElem?_range h]
  rfl
theorem seven (a b c d e f g : Bool) {i : Nat} (h : i < 7) : ∃ x, ([V.bl a, V.bl b, V.bl c, V.bl d, V.bl e, V.bl f, V.bl g] : List V)[i]? = some (V.bl x) := by
  match i, h with
  | 0, _ => exact ⟨_, rfl⟩
  | 1, _ => exact ⟨_, rfl⟩
  | 2, _ => exact ⟨_, rfl⟩
  | 3, _ => exact ⟨_, rfl⟩
  | 4, _ => exact ⟨_, rfl⟩
  | 5, _ => exact ⟨_, rfl⟩
  | 6, _ => exact ⟨_, rfl⟩
theorem KeepBut.free {a : Addr} {H H1 : Hp} {c : Addr} {o : HO} (k : KeepBut a H H1) (e : H c = none) : KeepBut a H (upd H1 c o) := fun b u hb h => by
  rw [upd_ne (ne_free h e)]
  exact k b u hb h
theorem orV_bool {ta tb : TE} {σ : L2.St} {H : Hp} {Q : VK} (ha : ∀ Q' : VK, (∀ c, Q' (.bl c) H) → ta σ H Q') (hb : ∀ Q' : VK, (∀ c, Q' (.bl c) H) → tb σ H Q') (k : ∀ c, Q (.bl c) H) : tOrV ta tb σ H Q :=
  ha _ fun c => ⟨c, rfl, iteB c (fun _ => k true) fun _ => hb _ k⟩
theorem andV_bool {ta tb : TE} {σ : L2.St} {H : Hp} {Q : VK} (ha : ∀ Q' : VK, (∀ c, Q' (.bl c) H) → ta σ H Q') (hb : ∀ Q' : VK, (∀ c, Q' (.bl c) H) → tb σ H Q') (k : ∀ c, Q (.bl c) H) : tAndV ta tb σ H Q :=
  ha _ fun c => ⟨c, rfl, iteB c (fun _ => hb _ k) fun _ => k false⟩
theorem with_restSt {R : L2.St → Hp → Prop} {σ σ' : L2.St} {H : Hp} (e : σ = σ') (h : R σ' H) : R σ H := e ▸ h
theorem with_restB {G : Prop} {A R : Bool → Hp → Prop} (h : (∀ c H', A c H' → R c H') → G) (r : ∀ c H', A c H' → R c H') : G := h r
section
variable {P : Program} {w : World} {K : PySem.W.Frag} {mg : Str → Option Value} {base : Heap}
def spLawScene (T : TF K mg) : Sp := fun vs H Q _ => ∃ (pn cl : Addr) (B : Nat), vs = [.ref pn, .int 1, .int 3] ∧ PenAt H pn cl B ∧ B ≤ 100000 ∧
  ∀ H' s ks cr p qs, KeepBut pn H H' → PenAt H' pn cl (B + 20) → s ≠ pn → SceneAt H' s ks cr p → PlanAt T.P H' p ks qs → ks.Nodup → 0 < ks.length → ks.length ≤ 3 → (∀ q ∈ qs, q ∈ cr ∨ (q.2, q.1) ∈ cr) → Q (.ref s) H'
theorem ok_law_scene (T : TF K mg) : FnOk P w K mg base CX0 6 T.f_law_scene T.d_law_scene ["_law_pen", "_law_least", "_law_most"] (spLawScene T) := by
  refine T.F_law_scene.ok sc_law_scene (fun vs H Q E h => ?_) (fun cdv A outer s H vs Q E hr h => ?_)
  · obtain ⟨_, _, _, rfl, _⟩ := h
    rfl
  · obtain ⟨pn, cl, B, rfl, hpen, hB, k⟩ := h
    have nd := sc_law_scene.nd
    refine ⟨_, (pss_cons (ps_asg (pe_tup (pa_cons (pe_op op_add (pv 1) (pe_call (ok_law_draw T) (hr.mono (by decide)) rfl T.m_law_draw T.F_law_draw.kp T.b_law_draw .nil pass0 (pa_cons (pv 0) (pa_cons (pe_op op_sub (pe_op op_add (pv 2) pe_int) (pv 1)) (pa_nil))))) (pa_cons (pe_call (ok_law_draw T) (hr.mono (by decide)) rfl T.m_law_draw T.F_law_draw.kp T.b_law_draw .nil pass0 (pa_cons (pv 0) (pa_cons pe_int (pa_nil)))) (pa_cons (pe_call (ok_law_pick T) (hr.mono (by decide)) rfl T.m_law_pick T.F_law_pick.kp T.b_law_pick .nil pass0 (pa_cons (pv 0) (pa_cons (pe_lst (pa_cons pe_int (pa_cons pe_int (pa_cons pe_int (pa_cons pe_int (pa_nil)))))) (pa_nil)))) (pa_nil))))) (pg_tup (by rfl) (pgs_cons (pg_name (i := 3) nd rfl (Or.inl rfl)) (pgs_cons (pg_name (i := 4) nd rfl (Or.inr rfl)) (pgs_cons (pg_name (i := 5) nd rfl (Or.inr rfl)) (pgs_nil))))))
      (pss_cons (ps_set (i := 6) nd rfl (Or.inr rfl) pe_str)
      (pss_cons (ps_set (i := 8) nd rfl (Or.inl rfl) (pe_join pe_str (pe_callB cr_sortedS (by rfl) T.z_sorted (by decide +kernel) (pa_cons (pe_lc (own := [("_law_k", 7)]) (g := (gName 7)) (tt := tYes) rfl nd (pi_range1 rfl T.z_range (pa_cons (pv 3) (pa_nil))) (blkOk_by (own := [("_law_k", 7)]) (N := n_law_scene) (sc := defScope s_law_scene) (by decide +kernel)) (fun _ _ _ _ _ => (pg_name (i := 7) nd rfl (by first | exact Or.inl rfl | exact Or.inr rfl))) (fun _ _ _ _ _ => pts_nil) (fun _ _ _ _ _ => (pe_callTy SkE.call_str_str (by rfl) T.z_str (by decide +kernel) (pa_cons (pe_ix ix_str (pv 6) (pe_op op_mod (pe_callTy call_int1 (by rfl) T.z_int (by decide +kernel) (pa_cons (pe_op op_add (pv 4) (pe_op op_mul (pv 5) (pv 7))) (pa_nil))) pe_int) (fun _ _ => rfl)) (pa_nil))))) (pa_nil)))))
      (pss_cons (ps_par (i := 9) (j := 10) rfl nd rfl rfl (by decide) rfl rfl (pa_cons (pe_call (ok_law_draw T) (hr.mono (by decide)) rfl T.m_law_draw T.F_law_draw.kp T.b_law_draw .nil pass0 (pa_cons (pv 0) (pa_cons pe_int (pa_nil)))) (pa_cons (pe_lst (pa_nil)) (pa_nil))) (by rfl))
      (pss_cons (ps_for PassesOwn.never rfl (pi_range1 rfl T.z_range (pa_cons (pv 3) (pa_nil))) (pg_name (i := 7) nd rfl (Or.inl rfl)) (pss_one (ps_for PassesOwn.never rfl (pi_range1 rfl T.z_range (pa_cons (pv 7) (pa_nil))) (pg_name (i := 11) nd rfl (Or.inl rfl)) (pss_cons (ps_set (i := 12) nd rfl (Or.inl rfl) (pe_or (pe_cmpR op_eq (pe_op op_add (pv 11) pe_int) (pv 7) (nomark _)) (pe_one (pe_and (pe_cmpR op_eq (pv 11) pe_int (nomark _)) (pe_one (pe_cmpR op_eq (pv 7) (pe_op op_sub (pv 3) pe_int) (nomark _)))))))
      (pss_cons (ps_set (i := 13) nd rfl (Or.inl rfl) (pe_lst (pa_cons pe_bl (pa_cons pe_bl (pa_cons (pv 12) (pa_cons (pe_not (pv 12)) (pa_cons (pe_cmpR op_eq (pv 11) pe_int (nomark _)) (pa_cons (pe_cmpR op_eq (pe_op op_add (pv 11) pe_int) (pv 7) (nomark _)) (pa_cons (pe_cmpR op_eq (pe_call (ok_law_draw T) (hr.mono (by decide)) rfl T.m_law_draw T.F_law_draw.kp T.b_law_draw .nil pass0 (pa_cons (pv 0) (pa_cons pe_int (pa_nil)))) pe_int (nomark _)) (pa_nil))))))))))
      (pss_one (ps_if (pt_val (pe_ix ix_list (pv 13) (pv 9) (fun _ _ => rfl))) (pss_one (ps_expr (pe_bm PySem.F.plainAttrs_list PySem.F.slot_list_append PySem.F.type_list_append mt_append (pv 10) (pa_cons (pe_op op_add_str (pe_ix ix_str (pv 8) (pv 11) (fun _ _ => rfl)) (pe_ix ix_str (pv 8) (pv 7) (fun _ _ => rfl))) (pa_nil))))) pss_nil)))))))
      (pss_cons (ps_set (i := 14) nd rfl (Or.inl rfl) (pe_make (mk_P T) (ok_plan_init T) (hr.mono (by decide)) rfl T.mgP T.b_plan_init .nil pass0 (pa_cons (pe_revS (pv 8)) (pa_cons (pe_lc (own := [("_law_pair", 15)]) (g := (gName 15)) (tt := tYes) rfl nd (pi_list (pe_revL (pv 10))) (blkOk_by (own := [("_law_pair", 15)]) (N := n_law_scene) (sc := defScope s_law_scene) (by decide +kernel)) (fun _ _ _ _ _ => (pg_name (i := 15) nd rfl (by first | exact Or.inl rfl | exact Or.inr rfl))) (fun _ _ _ _ _ => pts_nil) (fun _ _ _ _ _ => (pe_revS (pv 15)))) (pa_nil)))))
      (pss_one (ps_ret (pe_disp (pps_cons pe_str (pv 8) (pps_cons pe_str (pv 10) (pps_cons pe_str (pe_make (mk_P T) (ok_plan_init T) (hr.mono (by decide)) rfl T.mgP T.b_plan_init .nil pass0 (pa_cons (pv 8) (pa_cons (pe_callTy call_list_of (by rfl) T.z_list (by decide +kernel) (pa_cons (pv 10) (pa_nil))) (pa_nil)))) (pps_cons pe_str (pv 14) pps_nil)))) rfl rfl (by simp) (by decide)))))))))), ?_⟩
    have big : sizeLine ≥ 1000000 := by decide
    refine ⟨_, rfl, _, rfl, _, rfl, _, _, rfl, rfl, _, rfl, _, _, rfl, rfl, pn, cl, B, 3, rfl, hpen, by omega, by omega, by omega, fun H1 r1 kb1 hp1 hr1 => ⟨_, _, rfl, rfl, ?_⟩⟩
    refine ⟨_, rfl, pn, cl, B + 1, 26, rfl, hp1, by omega, by omega, by omega, fun H2 fs kb2 hp2 hfs => ?_⟩
    refine ⟨_, rfl, by show 4 ≤ sizeLine; omega, fun l hl => ?_⟩
    have t2 : Same H2 (upd H2 l (.lst [.int 1, .int 3, .int 5, .int 7])) := same_new (Same.refl _) hl
    refine ⟨pn, cl, l, B + 1 + 1, _, rfl, hp2.same t2, by omega, upd_same, by show 0 < 4; omega, by show 4 < 1000000; omega, fun H3 r v kb3 hp3 hv => ?_⟩
    obtain ⟨st, rfl, hst⟩ : ∃ st : Nat, v = iv st ∧ (st = 1 ∨ st = 3 ∨ st = 5 ∨ st = 7) := by
      match r, hv with
      | 0, hv => exact ⟨1, (Option.some.inj hv).symm, by omega⟩
      | 1, hv => exact ⟨3, (Option.some.inj hv).symm, by omega⟩
      | 2, hv => exact ⟨5, (Option.some.inj hv).symm, by omega⟩
      | 3, hv => exact ⟨7, (Option.some.inj hv).symm, by omega⟩
    have kb03 : KeepBut pn H H3 := ((kb1.trans kb2).same t2).trans kb3
    refine ⟨by show 3 ≤ sizeLine; omega, fun tp htp => ⟨tp, _, rfl, SqT.of upd_same, rfl, _, _, rfl, _, _, rfl, _, _, rfl, rfl, ?_⟩⟩
    have t3 : Same H3 (upd H3 tp (.tup [V.int (1 + (r1 : Int)), iv fs, iv st])) := same_new (Same.refl _) htp
    have kb04 := kb03.same t3
    have hp4 := hp3.same t3
    generalize hM : 1 + r1 = M at *
    have hM0 : 0 < M := by omega
    have hM3 : M ≤ 3 := by omega
    have eM : (1 : Int) + (r1 : Int) = (M : Int) := by omega
    have hmul : ∀ k : Int, CMul (st : Int) k := fun k => .inl ⟨by omega, by omega⟩
    -- the state with many
    apply with_restSt (σ' := [some (.ref pn), some (.int 1), some (.int 3), some (iv M), some (iv fs), some (iv st), none, none, none, none, none, none, none, none, none, none]) (by
      show [some (V.ref pn), some (V.int 1), some (V.int 3), some (V.int (1 + (r1 : Int))), some (iv fs), some (iv st), none, none, none, none, none, none, none, none, none, none] = _
      rw [eM]) 
    clear t3
    generalize upd H3 tp (.tup [V.int (1 + (r1 : Int)), iv fs, iv st]) = H4 at kb04 hp4 ⊢
    let cs := (List.range M).map (kindAt fs st)
    have hcs : cs.length = M := by show ((List.range M).map _).length = M; simp
    refine ⟨⟨_, rfl⟩, _, rfl, (M : Int), rfl, by omega, by omega, fun D hD => lc_fn (walk_range (lo := 0) (n := M)) (fun _ => true) (fun k => .str (sgn (kindAt fs st k))) hD (by omega) (fun _ _ => True.intro) (fun q x H5x H5 kk N hq s5 y kt _ => ?_) (fun H5 s5 hD5 => ?_)⟩
    · obtain ⟨rfl, rfl⟩ := y
      have e : ((fs : Int) + (st : Int) * (0 + (q : Int))) % 26 = (((fs + st * q) % 26 : Nat) : Int) := by
        rw [Int.zero_add]
        push_cast
        rfl
      refine ⟨rfl, _, rfl, _, rfl, _, rfl, _, rfl, _, _, rfl, rfl, hmul _, _, _, rfl, rfl, .inl ⟨_, rfl, _, _, rfl, rfl, by show (0 : Int) < 26; decide, letters, _, kindAt fs st q, rfl, rfl, ?_, ?_, _, rfl, kt rfl _ (Same.refl _)⟩⟩
      · show letters.cps.size ≤ sizeLine
        rw [letters_size]
        omega
      · rw [e, letters_tl]
        exact atI_nat (lets_get (Nat.mod_lt _ (by decide)))
    rw [filter_true fun _ _ => rfl] at hD5
    have hD5' : H5 D = some (.lst ((cs.map sgn).map V.str)) := by
      rw [hD5]
      show _ = some (HO.lst ((((List.range M).map (kindAt fs st)).map sgn).map V.str))
      rw [List.map_map, List.map_map]
      rfl
    refine ⟨D, cs.map sgn, rfl, SqL.of hD5', by rw [List.length_map]; omega, fun ys p1 hperm hsrt hp1' => ?_⟩
    obtain ⟨zs, rfl, hzs, hzm, hzl⟩ := sorted_signs hperm hsrt (kinds_nd hst hM3)
    have hzl' : zs.length = M := by rw [hzl]; exact hcs
    have hlow : Low zs := fun c hc => kinds_low fs st M c ((hzm c).mp hc)
    have hznd : zs.Nodup := hzs.imp fun h => Nat.ne_of_lt h
    refine ⟨_, p1, zs.map sgn, rfl, rfl, .inl (SqL.of upd_same), ?_, ?_⟩
    · rw [sum_signs]
      have h3 : (Str.ofString "").length = 0 := by decide +kernel
      rw [h3]
      omega
    rw [join_signs]
    have t5 : Same H4 (upd H5 p1 (.lst ((zs.map sgn).map V.str))) := same_new s5 (Same.free s5 hp1')
    have kb05 := kb04.same t5
    have hp5 := hp4.same t5
    generalize upd H5 p1 (.lst ((zs.map sgn).map V.str)) = H6 at t5 kb05 hp5 ⊢
    -- the shape, the pairs
    refine ⟨_, rfl, pn, cl, _, 7, rfl, hp5, by omega, by omega, by omega, fun H7 sh kb7 hp7 hsh => ⟨by show 0 ≤ sizeLine; omega, fun pl hpl => ⟨_, _, rfl, ?_⟩⟩⟩
    have t7 : Same H7 (upd H7 pl (.lst [])) := same_new (Same.refl _) hpl
    have hpl7 : pl ≠ pn := (ne_free hp7.here.1.choose_spec hpl).symm
    have hplc : pl ≠ cl := (ne_free hp7.here.2.choose_spec hpl).symm
    have kb07 := (kb05.trans kb7).same t7
    have hpl0 : H pl = none := by
      cases e : H pl with
      | none => rfl
      | some o => rw [(kb05.trans kb7) pl o hpl7 e] at hpl; cases hpl
    have crossC : ∀ j kx, j < kx → kx < M → (zs.getD j 0 ∈ zs ∧ zs.getD kx 0 ∈ zs ∧ zs.getD j 0 ≠ zs.getD kx 0) := fun j kx h1 h2 => by
      refine ⟨getD_mem (by omega), getD_mem (by omega), fun e => ?_⟩
      rw [List.getD_eq_getElem?_getD, List.getD_eq_getElem?_getD, List.getElem?_eq_getElem (by omega), List.getElem?_eq_getElem (by omega)] at e
      have := (List.getElem_inj hznd).mp e
      omega
    have hzat : ∀ j, j < M → atI (txt zs).cps.toList ((j : Nat) : Int) = some (zs.getD j 0) := fun j hj => by
      rw [txt_tl]
      refine atI_nat ?_
      rw [List.getElem?_eq_getElem (by omega)]
      simp [List.getD_eq_getElem?_getD, List.getElem?_eq_getElem (show j < zs.length by omega)]
    refine ⟨_, rfl, (M : Int), rfl, by omega, by omega, for_it (walk_range (lo := 0) (n := M)) (fun kx σ H8 => ∃ (cr : List (Nat × Nat)) (o7 o11 o12 o13 : Option V), σ = [some (.ref pn), some (.int 1), some (.int 3), some (iv M), some (iv fs), some (iv st), some (.str letters), o7, some (.str (txt zs)), some (iv sh), some (.ref pl), o11, o12, o13, none, none] ∧ KeepBut pn H H8 ∧ PenAt H8 pn cl (B + 4 + 3 * kx) ∧ H8 pl = some (.lst (cr.map pairV)) ∧ CrossOk zs cr ∧ cr.length ≤ 3 * kx)
      ⟨[], _, _, _, _, rfl, kb07, (hp7.same t7).more (by omega), upd_same, fun q hq => (by cases hq), by simp⟩ (fun _ _ _ _ _ => True.intro) (fun kx x σ H8x H8 hkx h y => ?_) (fun σ H8 h => ?_)⟩
    · obtain ⟨cr, o7, o11, o12, o13, rfl, kb8, hp8, hpl8, hok, hcl⟩ := h
      obtain ⟨rfl, rfl⟩ := y
      have e0 : (0 : Int) + (kx : Nat) = (kx : Nat) := by omega
      simp only [e0]
      refine ⟨_, rfl, (kx : Int), rfl, by omega, by omega, for_it (walk_range (lo := 0) (n := kx)) (fun j σ H9 => ∃ (cr : List (Nat × Nat)) (o11 o12 o13 : Option V), σ = [some (.ref pn), some (.int 1), some (.int 3), some (iv M), some (iv fs), some (iv st), some (.str letters), some (iv kx), some (.str (txt zs)), some (iv sh), some (.ref pl), o11, o12, o13, none, none] ∧ KeepBut pn H H9 ∧ PenAt H9 pn cl (B + 4 + 3 * kx + j) ∧ H9 pl = some (.lst (cr.map pairV)) ∧ CrossOk zs cr ∧ cr.length ≤ 3 * kx + j)
        ⟨cr, _, _, _, rfl, kb8, hp8, hpl8, hok, hcl⟩ (fun _ _ _ _ _ => True.intro) (fun j x σ H9x H9 hj h y => ?_) (fun σ H9 h => ?_)⟩
      · obtain ⟨cr, o11, o12, o13, rfl, kb9, hp9, hpl9, hok, hcl⟩ := h
        obtain ⟨rfl, rfl⟩ := y
        have e0' : (0 : Int) + (j : Nat) = (j : Nat) := by omega
        simp only [e0']
        refine orV_bool (fun Q' k' => ⟨_, rfl, _, _, rfl, rfl, _, rfl, rfl, k' _⟩) (fun Q' k' => andV_bool (fun Q' k' => ⟨_, rfl, rfl, k' _⟩) (fun Q' k' => ⟨_, rfl, _, rfl, _, _, rfl, rfl, rfl, k' _⟩) k') (fun nb => ?_)
        refine ⟨_, rfl, _, rfl, nb, rfl, _, rfl, rfl, _, rfl, _, _, rfl, rfl, _, rfl, rfl, _, rfl, pn, cl, _, 2, rfl, hp9, by omega, by omega, by omega, fun H10 r2 kb10 hp10 hr2 => ⟨rfl, by show 7 ≤ sizeLine; omega, fun ml hml => ?_⟩⟩
        have hpl10 := kb10 _ _ hpl7 hpl9
        have hmp : pl ≠ ml := ne_free hpl10 hml
        obtain ⟨bb, hbb⟩ := seven false true nb (!nb) (decide (V.int (j : Nat) = V.int 0)) (decide (V.int ((j : Nat) + 1) = V.int (kx : Nat))) (decide (V.int (r2 : Nat) = V.int 0)) hsh
        refine ⟨_, rfl, _, rfl, ml, _, _, .bl bb, rfl, rfl, SqL.of upd_same, atI_nat hbb, bb, rfl, ?_⟩
        have kb11 := ((kb9.trans kb10).new hml : KeepBut pn H (upd H10 ml (.lst [V.bl false, V.bl true, V.bl nb, V.bl (!nb), V.bl (decide (V.int (j : Nat) = V.int 0)), V.bl (decide (V.int ((j : Nat) + 1) = V.int (kx : Nat))), V.bl (decide (V.int (r2 : Nat) = V.int 0))])))
        have hp11 := hp10.same (same_new (Same.refl _) hml : Same H10 (upd H10 ml (.lst [V.bl false, V.bl true, V.bl nb, V.bl (!nb), V.bl (decide (V.int (j : Nat) = V.int 0)), V.bl (decide (V.int ((j : Nat) + 1) = V.int (kx : Nat))), V.bl (decide (V.int (r2 : Nat) = V.int 0))])))
        have hpl11 : upd H10 ml (.lst [V.bl false, V.bl true, V.bl nb, V.bl (!nb), V.bl (decide (V.int (j : Nat) = V.int 0)), V.bl (decide (V.int ((j : Nat) + 1) = V.int (kx : Nat))), V.bl (decide (V.int (r2 : Nat) = V.int 0))]) pl = some (.lst (cr.map pairV)) := by rw [upd_ne hmp]; exact hpl10
        generalize upd H10 ml (.lst [V.bl false, V.bl true, V.bl nb, V.bl (!nb), V.bl (decide (V.int (j : Nat) = V.int 0)), V.bl (decide (V.int ((j : Nat) + 1) = V.int (kx : Nat))), V.bl (decide (V.int (r2 : Nat) = V.int 0))]) = H11 at kb11 hp11 hpl11 ⊢
        have hzs' : (txt zs).length ≤ sizeLine := by
          show (txt zs).cps.size ≤ sizeLine
          rw [txt_size]
          omega
        refine iteB _ (fun _ => ?_) (fun _ => ?_)
        · obtain ⟨c1, c2, c3⟩ := crossC j kx hj hkx
          refine ⟨_, rfl, .inl ⟨rfl, _, SqL.of hpl11⟩, _, rfl, _, rfl, txt zs, _, zs.getD j 0, rfl, rfl, hzs', hzat j (by omega), _, rfl, _, rfl, txt zs, _, zs.getD kx 0, rfl, rfl, hzs', hzat kx hkx, sgn (zs.getD j 0), sgn (zs.getD kx 0), rfl, rfl, by show 2 ≤ sizeLine; omega, pl, _, _, rfl, rfl, hpl11, by rw [List.length_map]; omega, ?_⟩
          refine ⟨cr ++ [(zs.getD j 0, zs.getD kx 0)], _, _, _, rfl, kb11.free hpl0, (hp11.putL hpl7 hplc).more (by omega), by rw [upd_same, List.map_append]; rfl, fun q hq => ?_, by rw [List.length_append]; show cr.length + 1 ≤ _; omega⟩
          rcases List.mem_append.mp hq with hq | hq
          · exact hok q hq
          · rw [List.mem_singleton.mp hq]
            exact ⟨c1, c2, c3⟩
        · exact ⟨cr, _, _, _, rfl, kb11, hp11.more (by omega), hpl11, hok, by omega⟩
      · obtain ⟨cr, o11, o12, o13, rfl, kb9, hp9, hpl9, hok, hcl⟩ := h
        exact ⟨cr, _, _, _, _, rfl, kb9, hp9.more (by omega), hpl9, hok, by omega⟩
    · obtain ⟨cr, o7, o11, o12, o13, rfl, kb8, hp8, hpl8, hok, hcl⟩ := h
      have hzs' : (txt zs).length ≤ sizeLine := by
        show (txt zs).cps.size ≤ sizeLine
        rw [txt_size]
        omega
      refine ⟨_, rfl, txt zs, rfl, hzs', _, rfl, pl, _, rfl, SqL.of hpl8, fun rl hrl => ⟨rl, rfl, ⟨_, SqL.of upd_same⟩, fun D2 hD2 => ?_⟩⟩
      have u1 : Same H8 (upd H8 rl (.lst (cr.map pairV).reverse)) := same_new (Same.refl _) hrl
      have hrl1 := upd_same (H := H8) (a := rl) (o := HO.lst (cr.map pairV).reverse)
      generalize upd H8 rl (.lst (cr.map pairV).reverse) = H9 at u1 hrl1 hD2 ⊢
      refine lc_fn (walk_list (xs := (cr.map pairV).reverse)) (fun _ => true) (fun i => pairV ((cr.reverse.getD i (0, 0)).2, (cr.reverse.getD i (0, 0)).1)) hD2 (by rw [List.length_reverse, List.length_map]; omega) (fun H10 s10 => SqL.of (s10 _ _ hrl1)) (fun i x H10x H10 kk N hi s10 y kt _ => ?_) (fun H10 s10 hD10 => ?_)
      · obtain ⟨rfl, hx⟩ := y
        rw [← List.map_reverse, List.getElem?_map] at hx
        cases hq : cr.reverse[i]? with
        | none => rw [hq] at hx; cases hx
        | some q =>
          rw [hq] at hx
          cases hx
          have := kt rfl _ (Same.refl _)
          rw [getD_of hq] at this
          exact ⟨rfl, _, rfl, txt [q.1, q.2], rfl, by show 2 ≤ sizeLine; omega, this⟩
      rw [filter_true fun _ _ => rfl, List.length_reverse, List.length_map, ← List.length_reverse, map_range_getD cr.reverse (0, 0) (fun q => pairV (q.2, q.1))] at hD10
      have hD10' : H10 D2 = some (.lst ((cr.reverse.map fun q => (q.2, q.1)).map pairV)) := by
        rw [hD10, List.map_map]
        rfl
      have k10 := u1.trans s10
      intro x dx hx hdx hne
      have sm := made_same (o := .own x) (o' := .ins T.P dx []) hx hdx
      refine ⟨x, dx, zs.reverse, D2, cr.reverse.map fun q => (q.2, q.1), rfl, upd_same, fun c hc => hlow c (List.mem_reverse.mp hc), (List.reverse_perm zs).nodup_iff.mpr hznd, by rw [List.length_reverse]; omega, sm _ _ hD10', fun q hq => ?_, by rw [List.length_map, List.length_reverse]; omega, fun H11 qs1 kb11 _ _ _ => ⟨rfl, ?_⟩⟩
      · obtain ⟨q', hq', rfl⟩ := List.mem_map.mp hq
        obtain ⟨h1, h2, h3⟩ := hok q' (List.mem_reverse.mp hq')
        exact ⟨List.mem_reverse.mpr h2, List.mem_reverse.mpr h1, Ne.symm h3⟩
      have s811 : Same H8 H11 := k10.trans (same_but sm hx kb11)
      intro dp hdp
      have u2 : Same H11 (upd H11 dp (.dK [])) := same_new (Same.refl _) hdp
      have hdp1 := upd_same (H := H11) (a := dp) (o := HO.dK [])
      have hpl11 := s811 _ _ hpl8
      have hpl12 := u2 _ _ hpl11
      have s812 := s811.trans u2
      clear u1 s10 k10 sm
      generalize upd H11 dp (.dK []) = H12 at u2 hdp1 hpl12 s812 ⊢
      refine ⟨_, rfl, _, rfl, _, rfl, _, rfl, pl, _, rfl, .inl (SqL.of hpl12), fun l2 hl2 => ?_⟩
      have u3 : Same H12 (upd H12 l2 (.lst (cr.map pairV))) := same_new (Same.refl _) hl2
      have hl22 := upd_same (H := H12) (a := l2) (o := HO.lst (cr.map pairV))
      have hdp2 := u3 _ _ hdp1
      have s813 := s812.trans u3
      generalize upd H12 l2 (.lst (cr.map pairV)) = H13 at u3 hl22 hdp2 s813 ⊢
      intro x2 dx2 hx2 hdx2 hne2
      have sm2 := made_same (o := .own x2) (o' := .ins T.P dx2 []) hx2 hdx2
      refine ⟨x2, dx2, zs, l2, cr, rfl, upd_same, hlow, hznd, by omega, sm2 _ _ hl22, hok, by omega, fun H14 qs kb14 hplan hqs hqs2 => ⟨rfl, ?_⟩⟩
      have s1314 : Same H13 H14 := same_but sm2 hx2 kb14
      have s814 := s813.trans s1314
      have hdp3 := s1314 _ _ hdp2
      rw [asc_self hzs hlow] at hplan
      refine ⟨_, rfl, hdp3, [(.inr "kinds", .str (txt zs)), (.inr "pairs", .ref pl), (.inr "plan", .ref x2), (.inr "twin", .ref x)], rfl, by show 4 ≤ 15; omega, ?_⟩
      have hdp0 : H8 dp = none := Same.free s811 hdp
      have hpn8 := hp8.here.1
      have hpdp : dp ≠ pn := (ne_free hpn8.choose_spec hdp0).symm
      have hcdp : dp ≠ cl := (ne_free hp8.here.2.choose_spec hdp0).symm
      refine k _ dp zs cr x2 qs ?_ ?_ hpdp ⟨pl, x, upd_same, by rw [upd_ne (ne_of (s814 _ _ hpl8) hdp3 (by intro z; cases z))]; exact s814 _ _ hpl8⟩ ?_ hznd (by omega) (by omega) hqs
      · have kb := kb8.same s814
        refine fun c o hc h => ?_
        have hcd : c ≠ dp := fun e => by
          subst e
          have := kb8 c o hc h
          rw [hdp0] at this
          cases this
        rw [upd_ne hcd]
        exact kb c o hc h
      · exact ((hp8.same s814).putL hpdp hcdp).more (by omega)
      · obtain ⟨h1, h2, dxp, pr, d, e1, e2⟩ := hplan
        exact ⟨h1, h2, dxp, pr, d, by rw [upd_ne (ne_of e1 hdp3 (by intro z; cases z))]; exact e1, by rw [upd_ne (ne_of e2 hdp3 (by intro z; cases z))]; exact e2⟩
end
end Cw

/-! ## CwV -/
namespace Cw
open PySem PySem.Spec PyProof.Rows L2 CwR
theorem doors_good {m : Nat} {cr : List (Nat × Nat)} {DT : List (Nat × List Nat)} {ks : List Nat} {qs : List (Nat × Nat)} (h : DoorsOk m cr DT) (hk : DT.map (·.1) = ks) (hm : 0 < m) (hq : ∀ q ∈ qs, (q.1 ∈ ks ∧ q.2 ∈ ks) ∧ (q ∈ cr ∨ (q.2, q.1) ∈ cr)) :
    Good (DT.map (·.2)) m ∧ Exch (prsOf ks qs) (DT.map (·.2)) m := by
  have rowOk : ∀ row ∈ DT.map (·.2), RowOk m row := fun row hr => by
    obtain ⟨q, hq, rfl⟩ := List.mem_map.mp hr
    obtain ⟨i, hi⟩ := List.mem_iff_getElem?.mp hq
    exact (h i q hi).1
  refine ⟨⟨hm, fun row hr => (rowOk row hr).1, fun row hr => (rowOk row hr).2.1, fun row hr => (rowOk row hr).2.2⟩, fun q' hq' p hp => ?_⟩
  obtain ⟨q, hqm, rfl⟩ := List.mem_map.mp hq'
  obtain ⟨⟨k1, k2⟩, hx⟩ := hq q hqm
  have hlen : DT.length = ks.length := by rw [← hk, List.length_map]
  have at_ : ∀ c, c ∈ ks → ∃ row, DT[ks.idxOf c]? = some (c, row) := fun c hc => by
    have hl := List.idxOf_lt_length_of_mem hc
    have e : ks[ks.idxOf c]? = some c := by rw [List.getElem?_eq_getElem hl, List.getElem_idxOf hl]
    have hl2 : ks.idxOf c < DT.length := by omega
    refine ⟨DT[ks.idxOf c].2, ?_⟩
    rw [List.getElem?_eq_getElem hl2]
    have e2 : (DT.map (·.1))[ks.idxOf c]? = some c := by rw [hk]; exact e
    rw [List.getElem?_map, List.getElem?_eq_getElem hl2] at e2
    have e3 : DT[ks.idxOf c].1 = c := Option.some.inj e2
    exact congrArg some (Prod.ext e3 rfl)
  obtain ⟨r1, e1⟩ := at_ q.1 k1
  obtain ⟨r2, e2⟩ := at_ q.2 k2
  have f1 : (DT.map (·.2))[ks.idxOf q.1]? = some r1 := by rw [List.getElem?_map, e1]; rfl
  have f2 : (DT.map (·.2))[ks.idxOf q.2]? = some r2 := by rw [List.getElem?_map, e2]; rfl
  show step _ (ks.idxOf q.2) (step _ (ks.idxOf q.1) p) = step _ (ks.idxOf q.1) (step _ (ks.idxOf q.2) p)
  rw [step_some f1, step_some f2, step_some f1, step_some f2]
  have inx : ∀ i c row j c', DT[i]? = some (c, row) → i < j → xr cr c c' = true → row ∈ xts cr c' (DT.take j) := fun i c row j c' e hij hx => by
    unfold xts
    refine List.mem_map.mpr ⟨(c, row), List.mem_filter.mpr ⟨?_, hx⟩, rfl⟩
    exact List.mem_of_getElem? (by rw [List.getElem?_take_of_lt hij]; exact e)
  rcases Nat.lt_trichotomy (ks.idxOf q.1) (ks.idxOf q.2) with hlt | heq | hgt
  · have hxr : xr cr q.1 q.2 = true := by
      unfold xr
      rcases hx with hx | hx
      · rw [decide_eq_true (show (q.1, q.2) ∈ cr from hx)]; rfl
      · rw [decide_eq_true hx, Bool.or_true]
    exact (h _ _ e2).2 r1 (inx _ _ _ _ _ e1 hlt hxr) p hp
  · rw [heq, e2] at e1
    injection e1 with e1
    injection e1 with _ e1
    rw [e1]
  · have hxr : xr cr q.2 q.1 = true := by
      unfold xr
      rcases hx with hx | hx
      · rw [decide_eq_true (show (q.1, q.2) ∈ cr from hx), Bool.or_true]
      · rw [decide_eq_true hx]; rfl
    exact ((h _ _ e1).2 r2 (inx _ _ _ _ _ e2 hgt hxr) p hp).symm
/-- the floor of one place -/
def pointRows (ks : List Nat) : Tab := ks.map fun _ => [0]
theorem point_step (ks : List Nat) (k : Nat) : step (pointRows ks) k 0 = 0 := by
  cases e : (pointRows ks)[k]? with
  | none => rw [step_none e]
  | some row =>
    rw [step_some e]
    obtain ⟨_, _, rfl⟩ := List.mem_map.mp (List.mem_of_getElem? e)
    rfl
theorem point_good (ks : List Nat) (prs : List (Nat × Nat)) : Good (pointRows ks) 1 ∧ Exch prs (pointRows ks) 1 := by
  refine ⟨⟨by decide, fun row hr => ?_, fun row hr p hp => ?_, fun row hr p hp => ?_⟩, fun q _ p hp => ?_⟩
  · obtain ⟨_, _, rfl⟩ := List.mem_map.mp hr; rfl
  · obtain ⟨_, _, rfl⟩ := List.mem_map.mp hr
    have : p = 0 := by omega
    subst this
    show 0 < 1
    decide
  · obtain ⟨_, _, rfl⟩ := List.mem_map.mp hr
    have : p = 0 := by omega
    subst this
    rfl
  · have : p = 0 := by omega
    subst this
    simp only [point_step]
/-- instances and tuples stay -/
def IT : HO → Prop | .ins _ _ _ => True | .tup _ => True | _ => False
def KeepIT (H H' : Hp) : Prop := ∀ b o, IT o → H b = some o → H' b = some o
theorem KeepIT.of {H H' : Hp} (s : Same H H') : KeepIT H H' := fun b o _ h => s b o h
theorem KeepIT.but {a : Addr} {H H' : Hp} {kvs : List (Key × V)} (k : KeepBut a H H') (e : H a = some (.dK kvs)) : KeepIT H H' := fun b o i h => k b o (fun q => by rw [q, e] at h; cases h; exact i) h
theorem KeepIT.put {H : Hp} {a : Addr} {xs : List V} {o : HO} (e : H a = some (.lst xs)) : KeepIT H (upd H a o) := fun b u i h => by
  have : b ≠ a := fun q => by rw [q, e] at h; cases h; exact i
  rw [upd_ne this]
  exact h
theorem KeepIT.trans {H H1 H2 : Hp} (a : KeepIT H H1) (b : KeepIT H1 H2) : KeepIT H H2 := fun c o i h => b c o i (a c o i h)
theorem PlanAt.it {C : Addr} {H H' : Hp} {a : Addr} {ks : List Nat} {qs : List (Nat × Nat)} (h : PlanAt C H a ks qs) (s : KeepIT H H') : PlanAt C H' a ks qs := by
  obtain ⟨h1, h2, dx, pr, d, e1, e2⟩ := h
  exact ⟨h1, h2, dx, pr, d, s _ _ True.intro e1, s _ _ True.intro e2⟩
theorem FlAt.it {C : Addr} {H H' : Hp} {a p : Addr} {T : Tab} {m : Nat} (h : FlAt C H a p T m) (s : KeepIT H H') : FlAt C H' a p T m := by
  obtain ⟨dx, t, o, a, ⟨rs, b1, b2⟩, c⟩ := h
  exact ⟨dx, t, o, s _ _ True.intro a, ⟨rs, s _ _ True.intro b1, b2.1, fun k r row x y => s _ _ True.intro (b2.2 k r row x y)⟩, s _ _ True.intro c⟩
section
variable {P : Program} {w : World} {K : PySem.W.Frag} {mg : Str → Option Value} {base : Heap}
theorem Flo.it {T : TF K mg} {p : Addr} {ks : List Nat} {qs : List (Nat × Nat)} {N : Nat} {H H' : Hp} {a : Addr} {S : Tab} (h : Flo T p ks qs N H a S) (s : KeepIT H H') : Flo T p ks qs N H' a S := by
  obtain ⟨m, h1, h2, h3⟩ := h
  exact ⟨m, h1.it s, h2, h3⟩
/-- floors in a list -/
def Floors (T : TF K mg) (p : Addr) (ks : List Nat) (qs : List (Nat × Nat)) (H : Hp) (fs : List Addr) : Prop := ∀ x ∈ fs, ∃ S, Flo T p ks qs 10 H x S
theorem Floors.it {T : TF K mg} {p : Addr} {ks : List Nat} {qs : List (Nat × Nat)} {H H' : Hp} {fs : List Addr} (h : Floors T p ks qs H fs) (s : KeepIT H H') : Floors T p ks qs H' fs := fun x hx => by
  obtain ⟨S, hS⟩ := h x hx
  exact ⟨S, hS.it s⟩
def spLaw (K : PySem.W.Frag) : Sp := fun vs H Q _ => ∃ (a : Addr) (ns : List Int), vs = [.ref a] ∧ SqL K H a (ns.map V.int) ∧ ns.length ≤ 63 ∧ ∀ H', Q (.bl true) H'
theorem ok_law (T : TF K mg) : FnOk P w K mg base CX0 12 T.f_law T.d_law ["_law_script"] (spLaw K) := by
  refine T.F_law.ok sc_law (fun vs H Q E h => ?_) (fun cdv A outer s H vs Q E hr h => ?_)
  · obtain ⟨_, _, rfl, _⟩ := h
    rfl
  · obtain ⟨a, ns, rfl, ha, hns, k⟩ := h
    have nd := sc_law.nd
    refine ⟨_, (pss_cons (ps_set (i := 1) nd rfl (Or.inl rfl) (pe_call (ok_law_begin T) (hr.mono (by decide)) rfl T.m_law_begin T.F_law_begin.kp T.b_law_begin .nil pass0 (pa_cons (pv 0) (pa_nil))))
      (pss_cons (ps_for PassesOwn.never rfl (pi_range1 rfl T.z_range (pa_cons (pe_op op_add pe_int (pe_callB (call_min2 rfl) (by rfl) T.z_min (by decide +kernel) (pa_cons pe_int (pa_cons (pe_callB call_len_seq (by rfl) T.z_len PySem.boot_len (pa_cons (pv 0) (pa_nil))) (pa_nil))))) (pa_nil))) (pg_name (i := 2) nd rfl (Or.inl rfl)) (pss_cons (ps_set (i := 3) nd rfl (Or.inl rfl) (pe_call (ok_law_scene T) (hr.mono (by decide)) rfl T.m_law_scene T.F_law_scene.kp T.b_law_scene .nil pass0 (pa_cons (pv 1) (pa_cons pe_int (pa_cons pe_int (pa_nil))))))
      (pss_cons (ps_set (i := 4) nd rfl (Or.inl rfl) (pe_lst (pa_nil)))
      (pss_cons (ps_for PassesOwn.never rfl (pi_range1 rfl T.z_range (pa_cons (pe_op op_add pe_int (pe_call (ok_law_draw T) (hr.mono (by decide)) rfl T.m_law_draw T.F_law_draw.kp T.b_law_draw .nil pass0 (pa_cons (pv 1) (pa_cons pe_int (pa_nil))))) (pa_nil))) (pg_name (i := 5) nd rfl (Or.inl rfl)) (pss_one (ps_expr (pe_bm PySem.F.plainAttrs_list PySem.F.slot_list_append PySem.F.type_list_append mt_append (pv 4) (pa_cons (pe_make (mk_C T) (ok_closed_init T) (hr.mono (by decide)) rfl T.mgC T.b_closed_init .nil pass0 (pa_cons (pe_dget (hu_of hr) (pv 3) pe_str (fun _ _ => rfl)) (pa_cons (pe_call (ok_law_lists T) (hr.mono (by decide)) rfl T.m_law_lists T.F_law_lists.kp T.b_law_lists .nil pass0 (pa_cons (pv 3) (pa_cons (pe_call (ok_law_doors T) (hr.mono (by decide)) rfl T.m_law_doors T.F_law_doors.kp T.b_law_doors .nil pass0 (pa_cons (pv 1) (pa_cons (pv 3) (pa_cons (pe_op op_add pe_int (pe_call (ok_law_draw T) (hr.mono (by decide)) rfl T.m_law_draw T.F_law_draw.kp T.b_law_draw .nil pass0 (pa_cons (pv 1) (pa_cons pe_int (pa_nil))))) (pa_nil))))) (pa_nil)))) (pa_nil)))) (pa_nil))))))
      (pss_cons (ps_set (i := 6) nd rfl (Or.inl rfl) (pe_make (mk_C T) (ok_closed_init T) (hr.mono (by decide)) rfl T.mgC T.b_closed_init .nil pass0 (pa_cons (pe_dget (hu_of hr) (pv 3) pe_str (fun _ _ => rfl)) (pa_cons (pe_lc (own := [("_law_door", 11)]) (g := (gName 11)) (tt := tYes) rfl nd (pi_str (pe_dget (hu_of hr) (pv 3) pe_str (fun _ _ => rfl))) (blkOk_by (own := [("_law_door", 11)]) (N := n_law) (sc := defScope s_law) (by decide +kernel)) (fun _ _ _ _ _ => (pg_name (i := 11) nd rfl (by first | exact Or.inl rfl | exact Or.inr rfl))) (fun _ _ _ _ _ => pts_nil) (fun _ _ _ _ _ => (pe_lst (pa_cons pe_int (pa_nil))))) (pa_nil)))))
      (pss_cons (ps_set (i := 4) nd rfl (Or.inl rfl) (pe_op op_cat (pv 4) (pe_lst (pa_cons (pv 6) (pa_nil)))))
      (pss_one (ps_for PassesOwn.never rfl (pi_range1 rfl T.z_range (pa_cons pe_int (pa_nil))) (pg_name (i := 7) nd rfl (Or.inl rfl)) (pss_cons (ps_par3 (i := 8) (j := 9) (l := 10) rfl nd rfl rfl rfl (by decide) (by decide) (by decide) rfl rfl rfl (pa_cons (pe_call (ok_law_pick T) (hr.mono (by decide)) rfl T.m_law_pick T.F_law_pick.kp T.b_law_pick .nil pass0 (pa_cons (pv 1) (pa_cons (pv 4) (pa_nil)))) (pa_cons (pe_call (ok_law_pick T) (hr.mono (by decide)) rfl T.m_law_pick T.F_law_pick.kp T.b_law_pick .nil pass0 (pa_cons (pv 1) (pa_cons (pv 4) (pa_nil)))) (pa_cons (pe_call (ok_law_pick T) (hr.mono (by decide)) rfl T.m_law_pick T.F_law_pick.kp T.b_law_pick .nil pass0 (pa_cons (pv 1) (pa_cons (pv 4) (pa_nil)))) (pa_nil)))) (by rfl))
      (pss_one (ps_if (PW.pt (pw_or (pt_not (pt_val (pe_call (ok_law_is_order T) (hr.mono (by decide)) rfl T.m_law_is_order T.F_law_is_order.kp T.b_law_is_order .nil pass0 (pa_cons (pv 8) (pa_cons (pv 9) (pa_cons (pv 10) (pa_nil))))))) (pw_or (pt_not (pt_cmpR (op_cmpOwn (op := .LtE) (fun _ _ => rfl) T.nfC T.m_closed_le T.i_closed_le (ok_closed_le T) (hr.mono (by decide)) T.b_closed_le pass0) (pv 8) (pv 6) (nomark _))) (pw_or1 (pt_not (pt_cmpR (op_cmpOwn (op := .Eq) (fun _ _ => rfl) T.nfC T.m_closed_eq T.i_closed_eq (ok_closed_eq T) (hr.mono (by decide)) T.b_closed_eq pass0) (pe_op (op_binOwn (op := .BitOr) T.sfC T.m_closed_or T.i_closed_or (ok_closed_or T) (hr.mono (by decide)) T.b_closed_or pass0) (pv 8) (pv 6)) (pv 6) (nomark _))))))) (pss_one (ps_ret pe_bl)) pss_nil)))))))))))
      (pss_one (ps_ret pe_bl)))), ?_⟩
    have big : sizeLine ≥ 1000000 := by decide
    refine ⟨_, rfl, a, ns, rfl, ha, hns, fun H1 pn cl s1 hpn hp1 => ?_⟩
    refine ⟨_, rfl, a, _, rfl, .inl (s1.seq ha), _, _, rfl, _, _, rfl, rfl, ?_⟩
    obtain ⟨N, hN, hN3⟩ : ∃ N : Nat, (1 : Int) + (if (((ns.map V.int).length : Nat) : Int) < 2 then (((ns.map V.int).length : Nat) : Int) else 2) = (N : Int) ∧ N ≤ 3 := by
      rw [List.length_map]
      by_cases h : ((ns.length : Nat) : Int) < 2
      · rw [if_pos h]
        exact ⟨1 + ns.length, by omega, by omega⟩
      · rw [if_neg h]
        exact ⟨3, by omega, by omega⟩
    refine ⟨(N : Int), by rw [← hN], by omega, by omega, ?_⟩
    refine for_it (walk_range (lo := 0) (n := N)) (fun i σ H2 => (∃ o2 o3 o4 o5 o6 o7 o8 o9 o10 o11, σ = [some (.ref a), some (.ref pn), o2, o3, o4, o5, o6, o7, o8, o9, o10, o11]) ∧ PenAt H2 pn cl (1000 * i)) ⟨⟨_, _, _, _, _, _, _, _, _, _, rfl⟩, hp1⟩ (fun _ _ _ _ _ => True.intro) (fun i z σ H2x H2 hi h y => ?_) (fun σ H2 h => ?_)
    · obtain ⟨⟨o2, o3, o4, o5, o6, o7, o8, o9, o10, o11, rfl⟩, hp2⟩ := h
      obtain ⟨rfl, rfl⟩ := y
      refine ⟨_, rfl, pn, cl, 1000 * i, rfl, hp2, by omega, fun H3 sc ks cr p qs kb3 hp3 hsp hsc hpl hnd hk0 hk3 hqs => ?_⟩
      obtain ⟨plA, tw, hs1, hs2⟩ := hsc
      clear kb3 hp2
      refine ⟨by show 0 ≤ sizeLine; omega, fun fl hfl => ?_⟩
      have t3 : Same H3 (upd H3 fl (.lst [])) := same_new (Same.refl _) hfl
      have hflp : fl ≠ pn := (ne_free hp3.here.1.choose_spec hfl).symm
      have hflc : fl ≠ cl := (ne_free hp3.here.2.choose_spec hfl).symm
      have hflA : fl ≠ plA := (ne_free hs2 hfl).symm
      have hqs' : ∀ q ∈ qs, (q.1 ∈ ks ∧ q.2 ∈ ks) ∧ (q ∈ cr ∨ (q.2, q.1) ∈ cr) := fun q hq => ⟨hpl.1 q hq, hqs q hq⟩
      have hkS : ∀ c ∈ ks, c ∈ lets := hpl.2.1
      refine ⟨_, rfl, pn, cl, _, 3, rfl, hp3.same t3, by omega, by omega, by omega, fun H4 r kb4 hp4 hr4 => ⟨_, _, rfl, rfl, ?_⟩⟩
      have hplAp : plA ≠ pn := ne_of hs2 hp3.here.1.choose_spec (by intro z; cases z)
      have keepS : ∀ {Ha Hb : Hp}, KeepBut pn Ha Hb → Ha sc = some (.dK (sceneK ks plA p tw)) → Ha plA = some (.lst (cr.map pairV)) → Hb sc = some (.dK (sceneK ks plA p tw)) ∧ Hb plA = some (.lst (cr.map pairV)) := fun kb h1 h2 => ⟨kb _ _ hsp h1, kb _ _ hplAp h2⟩
      have hs4 := keepS kb4 (t3 _ _ hs1) (t3 _ _ hs2)
      have hpl4 := (hpl.same t3).it (KeepIT.but kb4 (hp3.same t3).here.1.choose_spec)
      have hfl4 : H4 fl = some (.lst []) := kb4 _ _ hflp upd_same
      refine ⟨((3 + r : Nat) : Int), rfl, by omega, by omega, for_it (walk_range (lo := 0) (n := 3 + r)) (fun j σ H5 => (∃ o5, σ = [some (.ref a), some (.ref pn), some (.int (0 + (i : Nat))), some (.ref sc), some (.ref fl), o5, o6, o7, o8, o9, o10, o11]) ∧ PenAt H5 pn cl (1000 * i + 20 + 1 + 140 * j) ∧ H5 sc = some (.dK (sceneK ks plA p tw)) ∧ H5 plA = some (.lst (cr.map pairV)) ∧ PlanAt T.P H5 p ks qs ∧ ∃ fs : List Addr, H5 fl = some (.lst (fs.map V.ref)) ∧ fs.length = j ∧ Floors T p ks qs H5 fs)
        ⟨⟨_, rfl⟩, hp4, hs4.1, hs4.2, hpl4, [], hfl4, rfl, fun x hx => (by cases hx)⟩ (fun _ _ _ _ _ => True.intro) (fun j z σ H5x H5 hj h y => ?_) (fun σ H5 h => ?_)⟩
      · obtain ⟨⟨o5', rfl⟩, hp5, hs5, hs5', hpl5, fs, hfl5, hfs, hF⟩ := h
        obtain ⟨rfl, rfl⟩ := y
        refine ⟨_, rfl, .inl ⟨rfl, _, SqL.of hfl5⟩, _, rfl, sc, _, rfl, sc_plan hs5, _, rfl, _, rfl, _, rfl, _, rfl, pn, cl, _, 3, rfl, hp5, by omega, by omega, by omega, fun H6 r6 kb6 hp6 hr6 => ⟨_, _, rfl, rfl, ?_⟩⟩
        obtain ⟨hs6, hs6'⟩ := keepS kb6 hs5 hs5'
        refine ⟨pn, cl, sc, 1 + r6, _, ks, cr, p, rfl, hp6, by omega, ⟨plA, tw, hs6, hs6'⟩, hsp.symm, hnd, by omega, by omega, by omega, fun H7 d DT kb7 hp7 hTab hDT hOk => ?_⟩
        obtain ⟨hs7, hs7'⟩ := keepS kb7 hs6 hs6'
        have it57 : KeepIT H5 H7 := (KeepIT.but kb6 hp5.here.1.choose_spec).trans (KeepIT.but kb7 hp6.here.1.choose_spec)
        have hfl7 : H7 fl = some (.lst (fs.map V.ref)) := kb7 _ _ hflp (kb6 _ _ hflp hfl5)
        refine ⟨sc, d, ks, cr, p, DT, rfl, ⟨plA, tw, hs7, hs7'⟩, hTab, hDT, hnd, by omega, fun H8 t s8 hL => ?_⟩
        intro x dx hx hdx hne
        have sm := made_same (o := .own x) (o' := .ins T.C dx []) hx hdx
        obtain ⟨gd, ex⟩ := doors_good (m := 1 + r6) hOk hDT (by omega) hqs'
        have hlD : (DT.map (·.2)).length = ks.length := by rw [List.length_map, ← hDT, List.length_map]
        have hpl8 := ((hpl5.it it57).same s8).same sm
        refine ⟨x, dx, p, t, ks, qs, DT.map (·.2), 1 + r6, rfl, upd_same, hpl8, ?_, hlD, hk0, by omega, by omega, gd, ex, fun H9 n kb9 hf hn => ⟨rfl, ?_⟩⟩
        · obtain ⟨rs, l1, l2⟩ := hL
          exact ⟨rs, sm _ _ l1, l2.1, fun a b c d e => sm _ _ (l2.2 a b c d e)⟩
        have s79 : Same H7 H9 := s8.trans (same_but sm hx kb9)
        obtain ⟨fl2, -⟩ := num_fl hk0 hlD gd ex
        rw [fl2.places hk0] at hn
        have hgl : (gfound (sys (DT.map (·.2))) 0 (1 + r6)).length ≤ 1 + r6 := gfound_len gd.enough _
        have hfl9 := s79 _ _ hfl7
        refine ⟨fl, _, _, rfl, rfl, hfl9, by rw [List.length_map]; omega, ⟨_, rfl⟩, ?_, ?_, ?_, ?_, fs ++ [x], by rw [upd_same, List.map_append]; rfl, by rw [List.length_append, hfs]; rfl, fun y hy => ?_⟩
        · refine ((hp7.same s79).putL hflp hflc).more ?_
          omega
        · rw [upd_ne (ne_of (s79 _ _ hs7) hfl9 (by intro z; cases z))]
          exact s79 _ _ hs7
        · rw [upd_ne hflA.symm]
          exact s79 _ _ hs7'
        · exact ((hpl5.it it57).same s79).it (KeepIT.put hfl9)
        · rcases List.mem_append.mp hy with hy | hy
          · exact ((hF.it it57).it (KeepIT.of s79)).it (KeepIT.put hfl9) y hy
          · rw [List.mem_singleton.mp hy]
            refine ⟨num (DT.map (·.2)), n, hf.it (KeepIT.put hfl9), ?_, by omega⟩
            rw [hn]
            exact fl2
      · obtain ⟨⟨o5', rfl⟩, hp5, hs5, hs5', hpl5, fs, hfl5, hfs, hF⟩ := h
        refine ⟨_, rfl, sc, _, rfl, sc_plan hs5, _, rfl, sc, _, rfl, sc_kinds hs5, txt ks, rfl, fun D hD => lc_refs walk_str (fun _ => .lst [iv 0]) hD (by rw [txt_size]; omega) (fun _ _ => True.intro) (fun q z H6x H6 kk hq s6 hDl y kt => ?_) (fun H6 ts s6 hD6 hn6 hts => ?_)⟩
        · obtain ⟨rfl, c, hc, rfl⟩ := y
          refine ⟨rfl, by show 1 ≤ sizeLine; omega, fun l hl => kt _ l (same_new (Same.refl _) hl) upd_same ?_⟩
          obtain ⟨xs, hx⟩ := hDl
          exact fun e => by rw [e, hx] at hl; cases hl
        intro x dx hx hdx hne
        have sm := made_same (o := .own x) (o' := .ins T.C dx []) hx hdx
        obtain ⟨gd, ex⟩ := point_good ks (prsOf ks qs)
        have hlP : (pointRows ks).length = ks.length := by unfold pointRows; rw [List.length_map]
        refine ⟨x, dx, p, D, ks, qs, pointRows ks, 1, rfl, upd_same, (hpl5.same s6).same sm, ⟨ts, sm _ _ hD6, by rw [hn6, txt_size, hlP], fun kx rr row e1 e2 => ?_⟩, hlP, hk0, by omega, by omega, gd, ex, fun H9 n kb9 hf hn => ⟨rfl, ?_⟩⟩
        · have hr := hts kx rr e1
          obtain ⟨_, _, er⟩ := List.mem_map.mp (List.mem_of_getElem? e2)
          rw [← er]
          exact sm _ _ hr
        have s59 : Same H5 H9 := s6.trans (same_but sm hx kb9)
        obtain ⟨flP, -⟩ := num_fl hk0 hlP gd ex
        rw [flP.places hk0] at hn
        have hgl : (gfound (sys (pointRows ks)) 0 1).length ≤ 1 := gfound_len gd.enough _
        have htot : ∀ u v, Rel (num (pointRows ks)) u v := fun u v => by
          have h1 := flP.good.walk_lt u
          have h2 := flP.good.walk_lt v
          unfold Rel
          omega
        have hPF : Flo T p ks qs 10 H9 x (num (pointRows ks)) := ⟨n, hf, by rw [hn]; exact flP, by omega⟩
        generalize num (pointRows ks) = SP at htot hPF hf
        have hpl9 := hpl5.same s59
        have hp9 := hp5.same s59
        have hF9 := hF.it (KeepIT.of s59)
        have hfl9 := s59 _ _ hfl5
        refine ⟨_, rfl, _, rfl, by show 1 ≤ sizeLine; omega, fun l1 hl1 => ?_⟩
        have u1 : Same H9 (upd H9 l1 (.lst [.ref x])) := same_new (Same.refl _) hl1
        refine ⟨fl, l1, _, _, rfl, rfl, u1 _ _ hfl9, upd_same, by rw [List.length_map]; show fs.length + 1 ≤ sizeLine; omega, fun f2 hf2 => ?_⟩
        have u2 : Same H9 (upd (upd H9 l1 (.lst [.ref x])) f2 (.lst (fs.map V.ref ++ [.ref x]))) := same_new u1 (Same.free u1 hf2)
        have hf22 : upd (upd H9 l1 (.lst [.ref x])) f2 (.lst (fs.map V.ref ++ [.ref x])) f2 = some (.lst ((fs ++ [x]).map V.ref)) := by rw [upd_same, List.map_append]; rfl
        have hpl10 := hpl9.same u2
        have hp10 := hp9.same u2
        have hPF10 := hPF.same u2
        have hF10 : Floors T p ks qs (upd (upd H9 l1 (.lst [.ref x])) f2 (.lst (fs.map V.ref ++ [.ref x]))) (fs ++ [x]) := fun y hy => by
          rcases List.mem_append.mp hy with hy | hy
          · exact hF9.it (KeepIT.of u2) y hy
          · rw [List.mem_singleton.mp hy]
            exact ⟨SP, hPF10⟩
        have hf2p : f2 ≠ pn := (ne_free (u1 _ _ hp9.here.1.choose_spec) hf2).symm
        generalize upd (upd H9 l1 (.lst [.ref x])) f2 (.lst (fs.map V.ref ++ [.ref x])) = H10 at hf22 hpl10 hp10 hPF10 hF10 ⊢
        have hfl : (fs ++ [x]).length = fs.length + 1 := by rw [List.length_append]; rfl
        generalize fs ++ [x] = gs at hf22 hF10 hfl
        refine ⟨8, rfl, by decide, by decide, for_it (walk_range (lo := 0) (n := 8)) (fun j σ H11 => (∃ o7 o8 o9 o10, σ = [some (.ref a), some (.ref pn), some (.int (0 + (i : Nat))), some (.ref sc), some (.ref f2), o5', some (.ref x), o7, o8, o9, o10, o11]) ∧ PenAt H11 pn cl (1000 * i + 20 + 1 + 140 * (3 + r) + 3 * j) ∧ PlanAt T.P H11 p ks qs ∧ H11 f2 = some (.lst (gs.map V.ref)) ∧ Floors T p ks qs H11 gs ∧ Flo T p ks qs 10 H11 x SP)
          ⟨⟨_, _, _, _, rfl⟩, hp10, hpl10, hf22, hF10, hPF10⟩ (fun _ _ _ _ _ => True.intro) (fun j z σ H11x H11 hj h y => ?_) (fun σ H11 h => ?_)⟩
        · obtain ⟨⟨o7', o8', o9', o10', rfl⟩, hp11, hpl11, hf11, hF11, hx11⟩ := h
          obtain ⟨rfl, rfl⟩ := y
          refine ⟨_, rfl, _, rfl, pn, cl, f2, _, _, rfl, hp11, by omega, hf11, by rw [List.length_map]; omega, by rw [List.length_map]; omega, fun H12 r1 v1 kb12 hp12 hv1 => ?_⟩
          have hf12 := kb12 _ _ hf2p hf11
          refine ⟨_, rfl, _, rfl, pn, cl, f2, _, _, rfl, hp12, by omega, hf12, by rw [List.length_map]; omega, by rw [List.length_map]; omega, fun H13 r2 v2 kb13 hp13 hv2 => ?_⟩
          have hf13 := kb13 _ _ hf2p hf12
          refine ⟨_, rfl, _, rfl, pn, cl, f2, _, _, rfl, hp13, by omega, hf13, by rw [List.length_map]; omega, by rw [List.length_map]; omega, fun H14 r3 v3 kb14 hp14 hv3 => ⟨_, _, _, rfl, ?_⟩⟩
          have hf14 := kb14 _ _ hf2p hf13
          have it := ((KeepIT.but kb12 hp11.here.1.choose_spec).trans (KeepIT.but kb13 hp12.here.1.choose_spec)).trans (KeepIT.but kb14 hp13.here.1.choose_spec)
          have hpl14 := hpl11.it it
          have hF14 := hF11.it it
          have hx14 := hx11.it it
          have pick : ∀ {rr : Nat} {v : V}, (gs.map V.ref)[rr]? = some v → ∃ y, v = .ref y ∧ y ∈ gs := fun {rr v} hv => by
            rw [List.getElem?_map] at hv
            cases e : gs[rr]? with
            | none => rw [e] at hv; cases hv
            | some y => rw [e] at hv; exact ⟨y, (Option.some.inj hv).symm, List.mem_of_getElem? e⟩
          obtain ⟨y1, rfl, hy1⟩ := pick hv1
          obtain ⟨y2, rfl, hy2⟩ := pick hv2
          obtain ⟨y3, rfl, hy3⟩ := pick hv3
          obtain ⟨SA, fA⟩ := hF14 y1 hy1
          obtain ⟨SB, fB⟩ := hF14 y2 hy2
          obtain ⟨SC, fC⟩ := hF14 y3 hy3
          have Pl14 : Pl T H14 p ks qs := ⟨hpl14, hk0, by omega⟩
          refine ⟨_, rfl, _, rfl, _, rfl, p, ks, qs, y1, y2, y3, SA, SB, SC, rfl, ⟨Pl14, fA, fB, fC⟩, fun H15 s15 => ⟨true, rfl, iteF ?_⟩⟩
          refine ⟨_, rfl, _, rfl, use_le (Pl14.same s15) (fA.same s15) (hx14.same s15) (by decide) (fun H16 c s16 i16 => ⟨c, rfl, ?_⟩)⟩
          obtain rfl : c = true := i16.mpr fun u v _ => htot u v
          refine iteF ?_
          have s146 := s15.trans s16
          refine ⟨_, rfl, _, rfl, use_or (Pl14.same s146) (fA.same s146) (hx14.same s146) (by decide) (fun H17 rj J s17 g17 e17 => ⟨_, rfl, use_eq ((Pl14.same s146).same s17) g17 ((hx14.same s146).same s17) ⟨true, congrArg V.bl (decide_eq_true ?_), ?_⟩⟩)⟩
          · exact g17.ext hk0 hx14 fun u v => ⟨fun _ => htot u v, fun _ => (e17 u v).mpr (Join.inr (htot u v))⟩
          refine iteF ?_
          have s147 := s146.trans s17
          exact ⟨⟨_, _, _, _, rfl⟩, (hp14.same s147).more (by omega), hpl14.same s147, s147 _ _ hf14, hF14.it (KeepIT.of s147), hx14.same s147⟩
        · obtain ⟨⟨o7', o8', o9', o10', rfl⟩, hp11, _⟩ := h
          exact ⟨⟨_, _, _, _, _, _, _, _, _, _, rfl⟩, hp11.more (by omega)⟩
    · obtain ⟨⟨o2, o3, o4, o5, o6, o7, o8, o9, o10, o11, rfl⟩, hp2⟩ := h
      exact k _
end
end Cw

/-! ## the end -/
namespace Cw
open PySem PySem.Spec PyProof.Rows L2
theorem fin {l : PySem.W.OpenLaw} {w : World} {K : PySem.W.Frag} {h : Heap} {mg : Str → Option Value} {fa : Addr} {P C dE dT : Addr} {dO : Value} {dD : Option Addr} {dN : Nat} {dS : Array (Option Value)} {lT mT : Tok} {f_is_integer : Addr} {od_is_integer an_is_integer : Option Addr} {sl_is_integer : Array (Option Value)} {oc_is_integer kV_is_integer dc_is_integer pm_is_integer cd_is_integer ct_is_integer : Value} {f_is_list : Addr} {od_is_list an_is_list : Option Addr} {sl_is_list : Array (Option Value)} {oc_is_list kV_is_list dc_is_list pm_is_list cd_is_list ct_is_list : Value} {f_need_same : Addr} {od_need_same an_need_same : Option Addr} {sl_need_same : Array (Option Value)} {oc_need_same kV_need_same dc_need_same pm_need_same cd_need_same ct_need_same : Value} {f_are_letters : Addr} {od_are_letters an_are_letters : Option Addr} {sl_are_letters : Array (Option Value)} {oc_are_letters kV_are_letters dc_are_letters pm_are_letters cd_are_letters ct_are_letters : Value} {f_ascending : Addr} {od_ascending an_ascending : Option Addr} {sl_ascending : Array (Option Value)} {oc_ascending kV_ascending dc_ascending pm_ascending cd_ascending ct_ascending : Value} {f_checked_pairs : Addr} {od_checked_pairs an_checked_pairs : Option Addr} {sl_checked_pairs : Array (Option Value)} {oc_checked_pairs kV_checked_pairs dc_checked_pairs pm_checked_pairs cd_checked_pairs ct_checked_pairs : Value} {f_need_few : Addr} {od_need_few an_need_few : Option Addr} {sl_need_few : Array (Option Value)} {oc_need_few kV_need_few dc_need_few pm_need_few cd_need_few ct_need_few : Value} {f_crossing_table : Addr} {od_crossing_table an_crossing_table : Option Addr} {sl_crossing_table : Array (Option Value)} {oc_crossing_table kV_crossing_table dc_crossing_table pm_crossing_table cd_crossing_table ct_crossing_table : Value} {f_is_table_row : Addr} {od_is_table_row an_is_table_row : Option Addr} {sl_is_table_row : Array (Option Value)} {oc_is_table_row kV_is_table_row dc_is_table_row pm_is_table_row cd_is_table_row ct_is_table_row : Value} {f_table_rows : Addr} {od_table_rows an_table_rows : Option Addr} {sl_table_rows : Array (Option Value)} {oc_table_rows kV_table_rows dc_table_rows pm_table_rows cd_table_rows ct_table_rows : Value} {f_need_entries : Addr} {od_need_entries an_need_entries : Option Addr} {sl_need_entries : Array (Option Value)} {oc_need_entries kV_need_entries dc_need_entries pm_need_entries cd_need_entries ct_need_entries : Value} {f_need_exchanged : Addr} {od_need_exchanged an_need_exchanged : Option Addr} {sl_need_exchanged : Array (Option Value)} {oc_need_exchanged kV_need_exchanged dc_need_exchanged pm_need_exchanged cd_need_exchanged ct_need_exchanged : Value} {f_found_places : Addr} {od_found_places an_found_places : Option Addr} {sl_found_places : Array (Option Value)} {oc_found_places kV_found_places dc_found_places pm_found_places cd_found_places ct_found_places : Value} {f_numbered_rows : Addr} {od_numbered_rows an_numbered_rows : Option Addr} {sl_numbered_rows : Array (Option Value)} {oc_numbered_rows kV_numbered_rows dc_numbered_rows pm_numbered_rows cd_numbered_rows ct_numbered_rows : Value} {f_met_pairs : Addr} {od_met_pairs an_met_pairs : Option Addr} {sl_met_pairs : Array (Option Value)} {oc_met_pairs kV_met_pairs dc_met_pairs pm_met_pairs cd_met_pairs ct_met_pairs : Value} {f_following_pairs : Addr} {od_following_pairs an_following_pairs : Option Addr} {sl_following_pairs : Array (Option Value)} {oc_following_pairs kV_following_pairs dc_following_pairs pm_following_pairs cd_following_pairs ct_following_pairs : Value} {f_pair_floor : Addr} {od_pair_floor an_pair_floor : Option Addr} {sl_pair_floor : Array (Option Value)} {oc_pair_floor kV_pair_floor dc_pair_floor pm_pair_floor cd_pair_floor ct_pair_floor : Value} {f_joint_marks : Addr} {od_joint_marks an_joint_marks : Option Addr} {sl_joint_marks : Array (Option Value)} {oc_joint_marks kV_joint_marks dc_joint_marks pm_joint_marks cd_joint_marks ct_joint_marks : Value} {f_merged_row : Addr} {od_merged_row an_merged_row : Option Addr} {sl_merged_row : Array (Option Value)} {oc_merged_row kV_merged_row dc_merged_row pm_merged_row cd_merged_row ct_merged_row : Value} {f_law_begin : Addr} {od_law_begin an_law_begin : Option Addr} {sl_law_begin : Array (Option Value)} {oc_law_begin kV_law_begin dc_law_begin pm_law_begin cd_law_begin ct_law_begin : Value} {f_law_draw : Addr} {od_law_draw an_law_draw : Option Addr} {sl_law_draw : Array (Option Value)} {oc_law_draw kV_law_draw dc_law_draw pm_law_draw cd_law_draw ct_law_draw : Value} {f_law_pick : Addr} {od_law_pick an_law_pick : Option Addr} {sl_law_pick : Array (Option Value)} {oc_law_pick kV_law_pick dc_law_pick pm_law_pick cd_law_pick ct_law_pick : Value} {f_law_scene : Addr} {od_law_scene an_law_scene : Option Addr} {sl_law_scene : Array (Option Value)} {oc_law_scene kV_law_scene dc_law_scene pm_law_scene cd_law_scene ct_law_scene : Value} {f_law_cross : Addr} {od_law_cross an_law_cross : Option Addr} {sl_law_cross : Array (Option Value)} {oc_law_cross kV_law_cross dc_law_cross pm_law_cross cd_law_cross ct_law_cross : Value} {f_law_fit : Addr} {od_law_fit an_law_fit : Option Addr} {sl_law_fit : Array (Option Value)} {oc_law_fit kV_law_fit dc_law_fit pm_law_fit cd_law_fit ct_law_fit : Value} {f_law_doors : Addr} {od_law_doors an_law_doors : Option Addr} {sl_law_doors : Array (Option Value)} {oc_law_doors kV_law_doors dc_law_doors pm_law_doors cd_law_doors ct_law_doors : Value} {f_law_lists : Addr} {od_law_lists an_law_lists : Option Addr} {sl_law_lists : Array (Option Value)} {oc_law_lists kV_law_lists dc_law_lists pm_law_lists cd_law_lists ct_law_lists : Value} {f_law_is_order : Addr} {od_law_is_order an_law_is_order : Option Addr} {sl_law_is_order : Array (Option Value)} {oc_law_is_order kV_law_is_order dc_law_is_order pm_law_is_order cd_law_is_order ct_law_is_order : Value} {f_law : Addr} {od_law an_law : Option Addr} {sl_law : Array (Option Value)} {oc_law kV_law dc_law pm_law cd_law ct_law : Value} {f_plan_init : Addr} {od_plan_init an_plan_init : Option Addr} {sl_plan_init : Array (Option Value)} {oc_plan_init kV_plan_init dc_plan_init pm_plan_init cd_plan_init ct_plan_init : Value} {f_plan_eq : Addr} {od_plan_eq an_plan_eq : Option Addr} {sl_plan_eq : Array (Option Value)} {oc_plan_eq kV_plan_eq dc_plan_eq pm_plan_eq cd_plan_eq ct_plan_eq : Value} {f_closed_init : Addr} {od_closed_init an_closed_init : Option Addr} {sl_closed_init : Array (Option Value)} {oc_closed_init kV_closed_init dc_closed_init pm_closed_init cd_closed_init ct_closed_init : Value} {f_closed_len : Addr} {od_closed_len an_closed_len : Option Addr} {sl_closed_len : Array (Option Value)} {oc_closed_len kV_closed_len dc_closed_len pm_closed_len cd_closed_len ct_closed_len : Value} {f_closed_eq : Addr} {od_closed_eq an_closed_eq : Option Addr} {sl_closed_eq : Array (Option Value)} {oc_closed_eq kV_closed_eq dc_closed_eq pm_closed_eq cd_closed_eq ct_closed_eq : Value} {f_closed_le : Addr} {od_closed_le an_closed_le : Option Addr} {sl_closed_le : Array (Option Value)} {oc_closed_le kV_closed_le dc_closed_le pm_closed_le cd_closed_le ct_closed_le : Value} {f_closed_and : Addr} {od_closed_and an_closed_and : Option Addr} {sl_closed_and : Array (Option Value)} {oc_closed_and kV_closed_and dc_closed_and pm_closed_and cd_closed_and ct_closed_and : Value} {f_closed_or : Addr} {od_closed_or an_closed_or : Option Addr} {sl_closed_or : Array (Option Value)} {oc_closed_or kV_closed_or dc_closed_or pm_closed_or cd_closed_or ct_closed_or : Value} (X : K.In h) (G : h.Ns mainGlobals mg) (hfa : mg "law" = some (.ref fa))
    (aP : PySem.W.nsIn K mainGlobals "Plan" = some (some (.ref P)))
    (aC : PySem.W.nsIn K mainGlobals "Closed" = some (some (.ref C)))
    (pgP : PySem.W.plainGet K P Str.empty = true)
    (hdP : PySem.W.hasDictIn K P = true)
    (poP : PySem.W.plainOver K P = true)
    (saP : PySem.W.findIn K (.ref P) "__setattr__" = some (some (.builtin "object.__setattr__")))
    (mkP : PySem.W.makesIn K P = true)
    (kcP : PySem.W.keepIn K (.ref P) = true)
    (iaP : PySem.W.findIn K (.ref P) "__class__" = some (some (.builtin "object.__class__")))
    (imP : PySem.W.mroIn K P (.type "object") = some true)
    (nfP : PySem.W.notFirst K P (.ref P) = true)
    (noP_kinds : PySem.W.findIn K (.ref P) "kinds" = some none)
    (noP_pairs : PySem.W.findIn K (.ref P) "pairs" = some none)
    (noP_own_crossing : PySem.W.findIn K (.ref P) "own_crossing" = some none)
    (pgC : PySem.W.plainGet K C Str.empty = true)
    (hdC : PySem.W.hasDictIn K C = true)
    (poC : PySem.W.plainOver K C = true)
    (saC : PySem.W.findIn K (.ref C) "__setattr__" = some (some (.builtin "object.__setattr__")))
    (mkC : PySem.W.makesIn K C = true)
    (kcC : PySem.W.keepIn K (.ref C) = true)
    (iaC : PySem.W.findIn K (.ref C) "__class__" = some (some (.builtin "object.__class__")))
    (imC : PySem.W.mroIn K C (.type "object") = some true)
    (nfC : PySem.W.notFirst K C (.ref C) = true)
    (noC_plan : PySem.W.findIn K (.ref C) "plan" = some none)
    (noC_tables : PySem.W.findIn K (.ref C) "tables" = some none)
    (noC_own_places : PySem.W.findIn K (.ref C) "own_places" = some none)
    (sfC : PySem.W.selfFirst K C = true)
    (neP : PySem.W.findIn K (.ref P) "__ne__" = some (some (.builtin "object.__ne__")))
    (ign : PySem.W.specialIn K (.builtin "object.__class__") "__get__" = some (some (.builtin "getset_descriptor.__get__")))
    (igt : PySem.W.takesIn K (.builtin "object.__class__") = some true)
    (aL : PySem.W.nsIn K mainGlobals "LETTERS" = some (some (.str "abcdefghijklmnopqrstuvwxyz" lT)))
    (aM : PySem.W.nsIn K mainGlobals "MOST_KINDS" = some (some (.int 8 mT)))
    (z_isinstance : PySem.W.nsIn K mainGlobals "isinstance" = some none)
    (z_len : PySem.W.nsIn K mainGlobals "len" = some none)
    (z_all : PySem.W.nsIn K mainGlobals "all" = some none)
    (z_set : PySem.W.nsIn K mainGlobals "set" = some none)
    (z_tuple : PySem.W.nsIn K mainGlobals "tuple" = some none)
    (z_zip : PySem.W.nsIn K mainGlobals "zip" = some none)
    (z_enumerate : PySem.W.nsIn K mainGlobals "enumerate" = some none)
    (z_range : PySem.W.nsIn K mainGlobals "range" = some none)
    (z_int : PySem.W.nsIn K mainGlobals "int" = some none)
    (z_list : PySem.W.nsIn K mainGlobals "list" = some none)
    (z_min : PySem.W.nsIn K mainGlobals "min" = some none)
    (z_abs : PySem.W.nsIn K mainGlobals "abs" = some none)
    (z_str : PySem.W.nsIn K mainGlobals "str" = some none)
    (z_sorted : PySem.W.nsIn K mainGlobals "sorted" = some none)
    (z_bool : PySem.W.nsIn K mainGlobals "bool" = some none)
    (a_is_integer : PySem.W.nsIn K mainGlobals "is_integer" = some (some (.ref f_is_integer)))
    (l_is_integer : K.lookup f_is_integer = some ⟨oc_is_integer, od_is_integer, .func (PySem.W.fnOf "is_integer" "is_integer" (defArgs s_is_integer) (defBody s_is_integer) (defScope s_is_integer) .none kV_is_integer dc_is_integer pm_is_integer an_is_integer cd_is_integer ct_is_integer), sl_is_integer⟩)
    (c_is_integer : PySem.W.codeIn K cd_is_integer "is_integer" = true)
    (k_is_integer : PySem.W.keepIn K (.ref f_is_integer) = true)
    (a_is_list : PySem.W.nsIn K mainGlobals "is_list" = some (some (.ref f_is_list)))
    (l_is_list : K.lookup f_is_list = some ⟨oc_is_list, od_is_list, .func (PySem.W.fnOf "is_list" "is_list" (defArgs s_is_list) (defBody s_is_list) (defScope s_is_list) .none kV_is_list dc_is_list pm_is_list an_is_list cd_is_list ct_is_list), sl_is_list⟩)
    (c_is_list : PySem.W.codeIn K cd_is_list "is_list" = true)
    (k_is_list : PySem.W.keepIn K (.ref f_is_list) = true)
    (a_need_same : PySem.W.nsIn K mainGlobals "need_same" = some (some (.ref f_need_same)))
    (l_need_same : K.lookup f_need_same = some ⟨oc_need_same, od_need_same, .func (PySem.W.fnOf "need_same" "need_same" (defArgs s_need_same) (defBody s_need_same) (defScope s_need_same) .none kV_need_same dc_need_same pm_need_same an_need_same cd_need_same ct_need_same), sl_need_same⟩)
    (c_need_same : PySem.W.codeIn K cd_need_same "need_same" = true)
    (k_need_same : PySem.W.keepIn K (.ref f_need_same) = true)
    (a_are_letters : PySem.W.nsIn K mainGlobals "are_letters" = some (some (.ref f_are_letters)))
    (l_are_letters : K.lookup f_are_letters = some ⟨oc_are_letters, od_are_letters, .func (PySem.W.fnOf "are_letters" "are_letters" (defArgs s_are_letters) (defBody s_are_letters) (defScope s_are_letters) .none kV_are_letters dc_are_letters pm_are_letters an_are_letters cd_are_letters ct_are_letters), sl_are_letters⟩)
    (c_are_letters : PySem.W.codeIn K cd_are_letters "are_letters" = true)
    (k_are_letters : PySem.W.keepIn K (.ref f_are_letters) = true)
    (a_ascending : PySem.W.nsIn K mainGlobals "ascending" = some (some (.ref f_ascending)))
    (l_ascending : K.lookup f_ascending = some ⟨oc_ascending, od_ascending, .func (PySem.W.fnOf "ascending" "ascending" (defArgs s_ascending) (defBody s_ascending) (defScope s_ascending) .none kV_ascending dc_ascending pm_ascending an_ascending cd_ascending ct_ascending), sl_ascending⟩)
    (c_ascending : PySem.W.codeIn K cd_ascending "ascending" = true)
    (k_ascending : PySem.W.keepIn K (.ref f_ascending) = true)
    (a_checked_pairs : PySem.W.nsIn K mainGlobals "checked_pairs" = some (some (.ref f_checked_pairs)))
    (l_checked_pairs : K.lookup f_checked_pairs = some ⟨oc_checked_pairs, od_checked_pairs, .func (PySem.W.fnOf "checked_pairs" "checked_pairs" (defArgs s_checked_pairs) (defBody s_checked_pairs) (defScope s_checked_pairs) .none kV_checked_pairs dc_checked_pairs pm_checked_pairs an_checked_pairs cd_checked_pairs ct_checked_pairs), sl_checked_pairs⟩)
    (c_checked_pairs : PySem.W.codeIn K cd_checked_pairs "checked_pairs" = true)
    (k_checked_pairs : PySem.W.keepIn K (.ref f_checked_pairs) = true)
    (a_need_few : PySem.W.nsIn K mainGlobals "need_few" = some (some (.ref f_need_few)))
    (l_need_few : K.lookup f_need_few = some ⟨oc_need_few, od_need_few, .func (PySem.W.fnOf "need_few" "need_few" (defArgs s_need_few) (defBody s_need_few) (defScope s_need_few) .none kV_need_few dc_need_few pm_need_few an_need_few cd_need_few ct_need_few), sl_need_few⟩)
    (c_need_few : PySem.W.codeIn K cd_need_few "need_few" = true)
    (k_need_few : PySem.W.keepIn K (.ref f_need_few) = true)
    (a_crossing_table : PySem.W.nsIn K mainGlobals "crossing_table" = some (some (.ref f_crossing_table)))
    (l_crossing_table : K.lookup f_crossing_table = some ⟨oc_crossing_table, od_crossing_table, .func (PySem.W.fnOf "crossing_table" "crossing_table" (defArgs s_crossing_table) (defBody s_crossing_table) (defScope s_crossing_table) .none kV_crossing_table dc_crossing_table pm_crossing_table an_crossing_table cd_crossing_table ct_crossing_table), sl_crossing_table⟩)
    (c_crossing_table : PySem.W.codeIn K cd_crossing_table "crossing_table" = true)
    (k_crossing_table : PySem.W.keepIn K (.ref f_crossing_table) = true)
    (a_is_table_row : PySem.W.nsIn K mainGlobals "is_table_row" = some (some (.ref f_is_table_row)))
    (l_is_table_row : K.lookup f_is_table_row = some ⟨oc_is_table_row, od_is_table_row, .func (PySem.W.fnOf "is_table_row" "is_table_row" (defArgs s_is_table_row) (defBody s_is_table_row) (defScope s_is_table_row) .none kV_is_table_row dc_is_table_row pm_is_table_row an_is_table_row cd_is_table_row ct_is_table_row), sl_is_table_row⟩)
    (c_is_table_row : PySem.W.codeIn K cd_is_table_row "is_table_row" = true)
    (k_is_table_row : PySem.W.keepIn K (.ref f_is_table_row) = true)
    (a_table_rows : PySem.W.nsIn K mainGlobals "table_rows" = some (some (.ref f_table_rows)))
    (l_table_rows : K.lookup f_table_rows = some ⟨oc_table_rows, od_table_rows, .func (PySem.W.fnOf "table_rows" "table_rows" (defArgs s_table_rows) (defBody s_table_rows) (defScope s_table_rows) .none kV_table_rows dc_table_rows pm_table_rows an_table_rows cd_table_rows ct_table_rows), sl_table_rows⟩)
    (c_table_rows : PySem.W.codeIn K cd_table_rows "table_rows" = true)
    (k_table_rows : PySem.W.keepIn K (.ref f_table_rows) = true)
    (a_need_entries : PySem.W.nsIn K mainGlobals "need_entries" = some (some (.ref f_need_entries)))
    (l_need_entries : K.lookup f_need_entries = some ⟨oc_need_entries, od_need_entries, .func (PySem.W.fnOf "need_entries" "need_entries" (defArgs s_need_entries) (defBody s_need_entries) (defScope s_need_entries) .none kV_need_entries dc_need_entries pm_need_entries an_need_entries cd_need_entries ct_need_entries), sl_need_entries⟩)
    (c_need_entries : PySem.W.codeIn K cd_need_entries "need_entries" = true)
    (k_need_entries : PySem.W.keepIn K (.ref f_need_entries) = true)
    (a_need_exchanged : PySem.W.nsIn K mainGlobals "need_exchanged" = some (some (.ref f_need_exchanged)))
    (l_need_exchanged : K.lookup f_need_exchanged = some ⟨oc_need_exchanged, od_need_exchanged, .func (PySem.W.fnOf "need_exchanged" "need_exchanged" (defArgs s_need_exchanged) (defBody s_need_exchanged) (defScope s_need_exchanged) .none kV_need_exchanged dc_need_exchanged pm_need_exchanged an_need_exchanged cd_need_exchanged ct_need_exchanged), sl_need_exchanged⟩)
    (c_need_exchanged : PySem.W.codeIn K cd_need_exchanged "need_exchanged" = true)
    (k_need_exchanged : PySem.W.keepIn K (.ref f_need_exchanged) = true)
    (a_found_places : PySem.W.nsIn K mainGlobals "found_places" = some (some (.ref f_found_places)))
    (l_found_places : K.lookup f_found_places = some ⟨oc_found_places, od_found_places, .func (PySem.W.fnOf "found_places" "found_places" (defArgs s_found_places) (defBody s_found_places) (defScope s_found_places) .none kV_found_places dc_found_places pm_found_places an_found_places cd_found_places ct_found_places), sl_found_places⟩)
    (c_found_places : PySem.W.codeIn K cd_found_places "found_places" = true)
    (k_found_places : PySem.W.keepIn K (.ref f_found_places) = true)
    (a_numbered_rows : PySem.W.nsIn K mainGlobals "numbered_rows" = some (some (.ref f_numbered_rows)))
    (l_numbered_rows : K.lookup f_numbered_rows = some ⟨oc_numbered_rows, od_numbered_rows, .func (PySem.W.fnOf "numbered_rows" "numbered_rows" (defArgs s_numbered_rows) (defBody s_numbered_rows) (defScope s_numbered_rows) .none kV_numbered_rows dc_numbered_rows pm_numbered_rows an_numbered_rows cd_numbered_rows ct_numbered_rows), sl_numbered_rows⟩)
    (c_numbered_rows : PySem.W.codeIn K cd_numbered_rows "numbered_rows" = true)
    (k_numbered_rows : PySem.W.keepIn K (.ref f_numbered_rows) = true)
    (a_met_pairs : PySem.W.nsIn K mainGlobals "met_pairs" = some (some (.ref f_met_pairs)))
    (l_met_pairs : K.lookup f_met_pairs = some ⟨oc_met_pairs, od_met_pairs, .func (PySem.W.fnOf "met_pairs" "met_pairs" (defArgs s_met_pairs) (defBody s_met_pairs) (defScope s_met_pairs) .none kV_met_pairs dc_met_pairs pm_met_pairs an_met_pairs cd_met_pairs ct_met_pairs), sl_met_pairs⟩)
    (c_met_pairs : PySem.W.codeIn K cd_met_pairs "met_pairs" = true)
    (k_met_pairs : PySem.W.keepIn K (.ref f_met_pairs) = true)
    (a_following_pairs : PySem.W.nsIn K mainGlobals "following_pairs" = some (some (.ref f_following_pairs)))
    (l_following_pairs : K.lookup f_following_pairs = some ⟨oc_following_pairs, od_following_pairs, .func (PySem.W.fnOf "following_pairs" "following_pairs" (defArgs s_following_pairs) (defBody s_following_pairs) (defScope s_following_pairs) .none kV_following_pairs dc_following_pairs pm_following_pairs an_following_pairs cd_following_pairs ct_following_pairs), sl_following_pairs⟩)
    (c_following_pairs : PySem.W.codeIn K cd_following_pairs "following_pairs" = true)
    (k_following_pairs : PySem.W.keepIn K (.ref f_following_pairs) = true)
    (a_pair_floor : PySem.W.nsIn K mainGlobals "pair_floor" = some (some (.ref f_pair_floor)))
    (l_pair_floor : K.lookup f_pair_floor = some ⟨oc_pair_floor, od_pair_floor, .func (PySem.W.fnOf "pair_floor" "pair_floor" (defArgs s_pair_floor) (defBody s_pair_floor) (defScope s_pair_floor) .none kV_pair_floor dc_pair_floor pm_pair_floor an_pair_floor cd_pair_floor ct_pair_floor), sl_pair_floor⟩)
    (c_pair_floor : PySem.W.codeIn K cd_pair_floor "pair_floor" = true)
    (k_pair_floor : PySem.W.keepIn K (.ref f_pair_floor) = true)
    (a_joint_marks : PySem.W.nsIn K mainGlobals "joint_marks" = some (some (.ref f_joint_marks)))
    (l_joint_marks : K.lookup f_joint_marks = some ⟨oc_joint_marks, od_joint_marks, .func (PySem.W.fnOf "joint_marks" "joint_marks" (defArgs s_joint_marks) (defBody s_joint_marks) (defScope s_joint_marks) .none kV_joint_marks dc_joint_marks pm_joint_marks an_joint_marks cd_joint_marks ct_joint_marks), sl_joint_marks⟩)
    (c_joint_marks : PySem.W.codeIn K cd_joint_marks "joint_marks" = true)
    (k_joint_marks : PySem.W.keepIn K (.ref f_joint_marks) = true)
    (a_merged_row : PySem.W.nsIn K mainGlobals "merged_row" = some (some (.ref f_merged_row)))
    (l_merged_row : K.lookup f_merged_row = some ⟨oc_merged_row, od_merged_row, .func (PySem.W.fnOf "merged_row" "merged_row" (defArgs s_merged_row) (defBody s_merged_row) (defScope s_merged_row) .none kV_merged_row dc_merged_row pm_merged_row an_merged_row cd_merged_row ct_merged_row), sl_merged_row⟩)
    (c_merged_row : PySem.W.codeIn K cd_merged_row "merged_row" = true)
    (k_merged_row : PySem.W.keepIn K (.ref f_merged_row) = true)
    (a_law_begin : PySem.W.nsIn K mainGlobals "_law_begin" = some (some (.ref f_law_begin)))
    (l_law_begin : K.lookup f_law_begin = some ⟨oc_law_begin, od_law_begin, .func (PySem.W.fnOf "_law_begin" "_law_begin" (defArgs s_law_begin) (defBody s_law_begin) (defScope s_law_begin) .none kV_law_begin dc_law_begin pm_law_begin an_law_begin cd_law_begin ct_law_begin), sl_law_begin⟩)
    (c_law_begin : PySem.W.codeIn K cd_law_begin "_law_begin" = true)
    (k_law_begin : PySem.W.keepIn K (.ref f_law_begin) = true)
    (a_law_draw : PySem.W.nsIn K mainGlobals "_law_draw" = some (some (.ref f_law_draw)))
    (l_law_draw : K.lookup f_law_draw = some ⟨oc_law_draw, od_law_draw, .func (PySem.W.fnOf "_law_draw" "_law_draw" (defArgs s_law_draw) (defBody s_law_draw) (defScope s_law_draw) .none kV_law_draw dc_law_draw pm_law_draw an_law_draw cd_law_draw ct_law_draw), sl_law_draw⟩)
    (c_law_draw : PySem.W.codeIn K cd_law_draw "_law_draw" = true)
    (k_law_draw : PySem.W.keepIn K (.ref f_law_draw) = true)
    (a_law_pick : PySem.W.nsIn K mainGlobals "_law_pick" = some (some (.ref f_law_pick)))
    (l_law_pick : K.lookup f_law_pick = some ⟨oc_law_pick, od_law_pick, .func (PySem.W.fnOf "_law_pick" "_law_pick" (defArgs s_law_pick) (defBody s_law_pick) (defScope s_law_pick) .none kV_law_pick dc_law_pick pm_law_pick an_law_pick cd_law_pick ct_law_pick), sl_law_pick⟩)
    (c_law_pick : PySem.W.codeIn K cd_law_pick "_law_pick" = true)
    (k_law_pick : PySem.W.keepIn K (.ref f_law_pick) = true)
    (a_law_scene : PySem.W.nsIn K mainGlobals "_law_scene" = some (some (.ref f_law_scene)))
    (l_law_scene : K.lookup f_law_scene = some ⟨oc_law_scene, od_law_scene, .func (PySem.W.fnOf "_law_scene" "_law_scene" (defArgs s_law_scene) (defBody s_law_scene) (defScope s_law_scene) .none kV_law_scene dc_law_scene pm_law_scene an_law_scene cd_law_scene ct_law_scene), sl_law_scene⟩)
    (c_law_scene : PySem.W.codeIn K cd_law_scene "_law_scene" = true)
    (k_law_scene : PySem.W.keepIn K (.ref f_law_scene) = true)
    (a_law_cross : PySem.W.nsIn K mainGlobals "_law_cross" = some (some (.ref f_law_cross)))
    (l_law_cross : K.lookup f_law_cross = some ⟨oc_law_cross, od_law_cross, .func (PySem.W.fnOf "_law_cross" "_law_cross" (defArgs s_law_cross) (defBody s_law_cross) (defScope s_law_cross) .none kV_law_cross dc_law_cross pm_law_cross an_law_cross cd_law_cross ct_law_cross), sl_law_cross⟩)
    (c_law_cross : PySem.W.codeIn K cd_law_cross "_law_cross" = true)
    (k_law_cross : PySem.W.keepIn K (.ref f_law_cross) = true)
    (a_law_fit : PySem.W.nsIn K mainGlobals "_law_fit" = some (some (.ref f_law_fit)))
    (l_law_fit : K.lookup f_law_fit = some ⟨oc_law_fit, od_law_fit, .func (PySem.W.fnOf "_law_fit" "_law_fit" (defArgs s_law_fit) (defBody s_law_fit) (defScope s_law_fit) .none kV_law_fit dc_law_fit pm_law_fit an_law_fit cd_law_fit ct_law_fit), sl_law_fit⟩)
    (c_law_fit : PySem.W.codeIn K cd_law_fit "_law_fit" = true)
    (k_law_fit : PySem.W.keepIn K (.ref f_law_fit) = true)
    (a_law_doors : PySem.W.nsIn K mainGlobals "_law_doors" = some (some (.ref f_law_doors)))
    (l_law_doors : K.lookup f_law_doors = some ⟨oc_law_doors, od_law_doors, .func (PySem.W.fnOf "_law_doors" "_law_doors" (defArgs s_law_doors) (defBody s_law_doors) (defScope s_law_doors) .none kV_law_doors dc_law_doors pm_law_doors an_law_doors cd_law_doors ct_law_doors), sl_law_doors⟩)
    (c_law_doors : PySem.W.codeIn K cd_law_doors "_law_doors" = true)
    (k_law_doors : PySem.W.keepIn K (.ref f_law_doors) = true)
    (a_law_lists : PySem.W.nsIn K mainGlobals "_law_lists" = some (some (.ref f_law_lists)))
    (l_law_lists : K.lookup f_law_lists = some ⟨oc_law_lists, od_law_lists, .func (PySem.W.fnOf "_law_lists" "_law_lists" (defArgs s_law_lists) (defBody s_law_lists) (defScope s_law_lists) .none kV_law_lists dc_law_lists pm_law_lists an_law_lists cd_law_lists ct_law_lists), sl_law_lists⟩)
    (c_law_lists : PySem.W.codeIn K cd_law_lists "_law_lists" = true)
    (k_law_lists : PySem.W.keepIn K (.ref f_law_lists) = true)
    (a_law_is_order : PySem.W.nsIn K mainGlobals "_law_is_order" = some (some (.ref f_law_is_order)))
    (l_law_is_order : K.lookup f_law_is_order = some ⟨oc_law_is_order, od_law_is_order, .func (PySem.W.fnOf "_law_is_order" "_law_is_order" (defArgs s_law_is_order) (defBody s_law_is_order) (defScope s_law_is_order) .none kV_law_is_order dc_law_is_order pm_law_is_order an_law_is_order cd_law_is_order ct_law_is_order), sl_law_is_order⟩)
    (c_law_is_order : PySem.W.codeIn K cd_law_is_order "_law_is_order" = true)
    (k_law_is_order : PySem.W.keepIn K (.ref f_law_is_order) = true)
    (a_law : PySem.W.nsIn K mainGlobals "law" = some (some (.ref f_law)))
    (l_law : K.lookup f_law = some ⟨oc_law, od_law, .func (PySem.W.fnOf "law" "law" (defArgs s_law) (defBody s_law) (defScope s_law) .none kV_law dc_law pm_law an_law cd_law ct_law), sl_law⟩)
    (c_law : PySem.W.codeIn K cd_law "law" = true)
    (k_law : PySem.W.keepIn K (.ref f_law) = true)
    (a_plan_init : PySem.W.findIn K (.ref P) "__init__" = some (some (.ref f_plan_init)))
    (i_plan_init : PySem.W.isFn K (.ref f_plan_init) = true)
    (l_plan_init : K.lookup f_plan_init = some ⟨oc_plan_init, od_plan_init, .func (PySem.W.fnOf "__init__" "Plan.__init__" (defArgs s_plan_init) (defBody s_plan_init) (defScope s_plan_init) (.ref dT) kV_plan_init dc_plan_init pm_plan_init an_plan_init cd_plan_init ct_plan_init), sl_plan_init⟩)
    (c_plan_init : PySem.W.codeIn K cd_plan_init "Plan.__init__" = true)
    (k_plan_init : PySem.W.keepIn K (.ref f_plan_init) = true)
    (a_plan_eq : PySem.W.findIn K (.ref P) "__eq__" = some (some (.ref f_plan_eq)))
    (i_plan_eq : PySem.W.isFn K (.ref f_plan_eq) = true)
    (l_plan_eq : K.lookup f_plan_eq = some ⟨oc_plan_eq, od_plan_eq, .func (PySem.W.fnOf "__eq__" "Plan.__eq__" (defArgs s_plan_eq) (defBody s_plan_eq) (defScope s_plan_eq) .none kV_plan_eq dc_plan_eq pm_plan_eq an_plan_eq cd_plan_eq ct_plan_eq), sl_plan_eq⟩)
    (c_plan_eq : PySem.W.codeIn K cd_plan_eq "Plan.__eq__" = true)
    (k_plan_eq : PySem.W.keepIn K (.ref f_plan_eq) = true)
    (a_closed_init : PySem.W.findIn K (.ref C) "__init__" = some (some (.ref f_closed_init)))
    (i_closed_init : PySem.W.isFn K (.ref f_closed_init) = true)
    (l_closed_init : K.lookup f_closed_init = some ⟨oc_closed_init, od_closed_init, .func (PySem.W.fnOf "__init__" "Closed.__init__" (defArgs s_closed_init) (defBody s_closed_init) (defScope s_closed_init) .none kV_closed_init dc_closed_init pm_closed_init an_closed_init cd_closed_init ct_closed_init), sl_closed_init⟩)
    (c_closed_init : PySem.W.codeIn K cd_closed_init "Closed.__init__" = true)
    (k_closed_init : PySem.W.keepIn K (.ref f_closed_init) = true)
    (a_closed_len : PySem.W.findIn K (.ref C) "__len__" = some (some (.ref f_closed_len)))
    (i_closed_len : PySem.W.isFn K (.ref f_closed_len) = true)
    (l_closed_len : K.lookup f_closed_len = some ⟨oc_closed_len, od_closed_len, .func (PySem.W.fnOf "__len__" "Closed.__len__" (defArgs s_closed_len) (defBody s_closed_len) (defScope s_closed_len) .none kV_closed_len dc_closed_len pm_closed_len an_closed_len cd_closed_len ct_closed_len), sl_closed_len⟩)
    (c_closed_len : PySem.W.codeIn K cd_closed_len "Closed.__len__" = true)
    (k_closed_len : PySem.W.keepIn K (.ref f_closed_len) = true)
    (a_closed_eq : PySem.W.findIn K (.ref C) "__eq__" = some (some (.ref f_closed_eq)))
    (i_closed_eq : PySem.W.isFn K (.ref f_closed_eq) = true)
    (l_closed_eq : K.lookup f_closed_eq = some ⟨oc_closed_eq, od_closed_eq, .func (PySem.W.fnOf "__eq__" "Closed.__eq__" (defArgs s_closed_eq) (defBody s_closed_eq) (defScope s_closed_eq) .none kV_closed_eq dc_closed_eq pm_closed_eq an_closed_eq cd_closed_eq ct_closed_eq), sl_closed_eq⟩)
    (c_closed_eq : PySem.W.codeIn K cd_closed_eq "Closed.__eq__" = true)
    (k_closed_eq : PySem.W.keepIn K (.ref f_closed_eq) = true)
    (a_closed_le : PySem.W.findIn K (.ref C) "__le__" = some (some (.ref f_closed_le)))
    (i_closed_le : PySem.W.isFn K (.ref f_closed_le) = true)
    (l_closed_le : K.lookup f_closed_le = some ⟨oc_closed_le, od_closed_le, .func (PySem.W.fnOf "__le__" "Closed.__le__" (defArgs s_closed_le) (defBody s_closed_le) (defScope s_closed_le) .none kV_closed_le dc_closed_le pm_closed_le an_closed_le cd_closed_le ct_closed_le), sl_closed_le⟩)
    (c_closed_le : PySem.W.codeIn K cd_closed_le "Closed.__le__" = true)
    (k_closed_le : PySem.W.keepIn K (.ref f_closed_le) = true)
    (a_closed_and : PySem.W.findIn K (.ref C) "__and__" = some (some (.ref f_closed_and)))
    (i_closed_and : PySem.W.isFn K (.ref f_closed_and) = true)
    (l_closed_and : K.lookup f_closed_and = some ⟨oc_closed_and, od_closed_and, .func (PySem.W.fnOf "__and__" "Closed.__and__" (defArgs s_closed_and) (defBody s_closed_and) (defScope s_closed_and) .none kV_closed_and dc_closed_and pm_closed_and an_closed_and cd_closed_and ct_closed_and), sl_closed_and⟩)
    (c_closed_and : PySem.W.codeIn K cd_closed_and "Closed.__and__" = true)
    (k_closed_and : PySem.W.keepIn K (.ref f_closed_and) = true)
    (a_closed_or : PySem.W.findIn K (.ref C) "__or__" = some (some (.ref f_closed_or)))
    (i_closed_or : PySem.W.isFn K (.ref f_closed_or) = true)
    (l_closed_or : K.lookup f_closed_or = some ⟨oc_closed_or, od_closed_or, .func (PySem.W.fnOf "__or__" "Closed.__or__" (defArgs s_closed_or) (defBody s_closed_or) (defScope s_closed_or) .none kV_closed_or dc_closed_or pm_closed_or an_closed_or cd_closed_or ct_closed_or), sl_closed_or⟩)
    (c_closed_or : PySem.W.codeIn K cd_closed_or "Closed.__or__" = true)
    (k_closed_or : PySem.W.keepIn K (.ref f_closed_or) = true)
    (l_dfl : K.lookup dT = some ⟨dO, dD, .seq [.ref dE].toArray dN, dS⟩)
    : ∃ fd : FuncData, (∀ (s : Shared) (v : Value), BindsTo s fd ⟨[v], []⟩ [("_law_script", v)]) ∧ ∀ base : Heap, K.In base → base.Ns mainGlobals mg → FnOk l.prog w K mg base CX0 12 fa fd ["_law_script"] (spLaw K) := by
  have e := hfa.symm.trans (PySem.W.mg_of X G a_law)
  cases e
  obtain ⟨⟨T, e1, kV, doc, pm, an, cdv, ct, e2⟩⟩ := all_mk X G aP aC pgP hdP poP saP mkP kcP iaP imP nfP noP_kinds noP_pairs noP_own_crossing pgC hdC poC saC mkC kcC iaC imC nfC noC_plan noC_tables noC_own_places sfC neP ign igt aL aM z_isinstance z_len z_all z_set z_tuple z_zip z_enumerate z_range z_int z_list z_min z_abs z_str z_sorted z_bool a_is_integer l_is_integer c_is_integer k_is_integer a_is_list l_is_list c_is_list k_is_list a_need_same l_need_same c_need_same k_need_same a_are_letters l_are_letters c_are_letters k_are_letters a_ascending l_ascending c_ascending k_ascending a_checked_pairs l_checked_pairs c_checked_pairs k_checked_pairs a_need_few l_need_few c_need_few k_need_few a_crossing_table l_crossing_table c_crossing_table k_crossing_table a_is_table_row l_is_table_row c_is_table_row k_is_table_row a_table_rows l_table_rows c_table_rows k_table_rows a_need_entries l_need_entries c_need_entries k_need_entries a_need_exchanged l_need_exchanged c_need_exchanged k_need_exchanged a_found_places l_found_places c_found_places k_found_places a_numbered_rows l_numbered_rows c_numbered_rows k_numbered_rows a_met_pairs l_met_pairs c_met_pairs k_met_pairs a_following_pairs l_following_pairs c_following_pairs k_following_pairs a_pair_floor l_pair_floor c_pair_floor k_pair_floor a_joint_marks l_joint_marks c_joint_marks k_joint_marks a_merged_row l_merged_row c_merged_row k_merged_row a_law_begin l_law_begin c_law_begin k_law_begin a_law_draw l_law_draw c_law_draw k_law_draw a_law_pick l_law_pick c_law_pick k_law_pick a_law_scene l_law_scene c_law_scene k_law_scene a_law_cross l_law_cross c_law_cross k_law_cross a_law_fit l_law_fit c_law_fit k_law_fit a_law_doors l_law_doors c_law_doors k_law_doors a_law_lists l_law_lists c_law_lists k_law_lists a_law_is_order l_law_is_order c_law_is_order k_law_is_order a_law l_law c_law k_law a_plan_init i_plan_init l_plan_init c_plan_init k_plan_init a_plan_eq i_plan_eq l_plan_eq c_plan_eq k_plan_eq a_closed_init i_closed_init l_closed_init c_closed_init k_closed_init a_closed_len i_closed_len l_closed_len c_closed_len k_closed_len a_closed_eq i_closed_eq l_closed_eq c_closed_eq k_closed_eq a_closed_le i_closed_le l_closed_le c_closed_le k_closed_le a_closed_and i_closed_and l_closed_and c_closed_and k_closed_and a_closed_or i_closed_or l_closed_or c_closed_or k_closed_or l_dfl
  refine ⟨T.d_law, fun s v => ?_, fun base _ _ => ?_⟩
  · rw [e2]
    exact .of_eq rfl
  · rw [← e1]
    exact ok_law T

theorem walkW {l : PySem.W.OpenLaw} {q : Program} {loose : List Str} {XP : (Str → Option Value) → Heap → Prop} {YP : World → Heap → Prop} {d : DefRec} {K : Params → PySem.W.Frag} (hn : l.most = some 63) (hdf : d.params.defaults = [])
    (hY : ∀ (w : World) (h : Heap), YP w h → (K w.params).In h)
    (F : ∀ (w : World) (mg : Str → Option Value) (fa : Addr) (h : Heap), (K w.params).In h → h.Ns mainGlobals mg → mg d.name = some (.ref fa) →
      ∃ fd : FuncData, (∀ (s : Shared) (u : Value), BindsTo s fd ⟨[u], []⟩ [("_law_script", u)]) ∧ ∀ base : Heap, (K w.params).In base → base.Ns mainGlobals mg → FnOk l.prog w (K w.params) mg base CX0 12 fa fd ["_law_script"] (spLaw (K w.params))) :
    PySem.W.WalkO q loose XP YP l.row.toRowW d [] (fun f vs => PySem.call f vs) :=
  L2.walk_of (n := 63) (k := 12) (x := "_law_script") (CX := fun _ => CX0) (sp := fun w => spLaw (K w.params)) hn (by decide) hdf ⟨rfl, by decide, by decide⟩ hY F (fun _ _ a ns hl _ hS => ⟨a, ns, rfl, hS, hl, fun _ => rfl⟩) fun _ _ _ _ _ z => z
end Cw

open PySem PySem.W PyProof.Rows
set_option maxHeartbeats 0
open_top head for PySem.Challenge.rw_crosswalls_k77_whole_closed_floors_order
theorem PySem.Challenge.cw_crosswalls_k77_whole_closed_floors_order_holds : PySem.Challenge.rw_crosswalls_k77_whole_closed_floors_order.Holds := by
  refine head ?_
  k_fill
  refine Cw.walkW (l := PySem.Challenge.rw_crosswalls_k77_whole_closed_floors_order) rfl rfl (fun w h Y => PySem.W.kIn_of Y) ?F
  case F =>
    intro w mg fa h KX G hmg
    refine' Cw.fin KX G hmg ?aP ?aC ?pgP ?hdP ?poP ?saP ?mkP ?kcP ?iaP ?imP ?nfP ?noP_kinds ?noP_pairs ?noP_own_crossing ?pgC ?hdC ?poC ?saC ?mkC ?kcC ?iaC ?imC ?nfC ?noC_plan ?noC_tables ?noC_own_places ?sfC ?neP ?ign ?igt ?aL ?aM ?z_isinstance ?z_len ?z_all ?z_set ?z_tuple ?z_zip ?z_enumerate ?z_range ?z_int ?z_list ?z_min ?z_abs ?z_str ?z_sorted ?z_bool ?a_is_integer ?l_is_integer ?c_is_integer ?k_is_integer ?a_is_list ?l_is_list ?c_is_list ?k_is_list ?a_need_same ?l_need_same ?c_need_same ?k_need_same ?a_are_letters ?l_are_letters ?c_are_letters ?k_are_letters ?a_ascending ?l_ascending ?c_ascending ?k_ascending ?a_checked_pairs ?l_checked_pairs ?c_checked_pairs ?k_checked_pairs ?a_need_few ?l_need_few ?c_need_few ?k_need_few ?a_crossing_table ?l_crossing_table ?c_crossing_table ?k_crossing_table ?a_is_table_row ?l_is_table_row ?c_is_table_row ?k_is_table_row ?a_table_rows ?l_table_rows ?c_table_rows ?k_table_rows ?a_need_entries ?l_need_entries ?c_need_entries ?k_need_entries ?a_need_exchanged ?l_need_exchanged ?c_need_exchanged ?k_need_exchanged ?a_found_places ?l_found_places ?c_found_places ?k_found_places ?a_numbered_rows ?l_numbered_rows ?c_numbered_rows ?k_numbered_rows ?a_met_pairs ?l_met_pairs ?c_met_pairs ?k_met_pairs ?a_following_pairs ?l_following_pairs ?c_following_pairs ?k_following_pairs ?a_pair_floor ?l_pair_floor ?c_pair_floor ?k_pair_floor ?a_joint_marks ?l_joint_marks ?c_joint_marks ?k_joint_marks ?a_merged_row ?l_merged_row ?c_merged_row ?k_merged_row ?a_law_begin ?l_law_begin ?c_law_begin ?k_law_begin ?a_law_draw ?l_law_draw ?c_law_draw ?k_law_draw ?a_law_pick ?l_law_pick ?c_law_pick ?k_law_pick ?a_law_scene ?l_law_scene ?c_law_scene ?k_law_scene ?a_law_cross ?l_law_cross ?c_law_cross ?k_law_cross ?a_law_fit ?l_law_fit ?c_law_fit ?k_law_fit ?a_law_doors ?l_law_doors ?c_law_doors ?k_law_doors ?a_law_lists ?l_law_lists ?c_law_lists ?k_law_lists ?a_law_is_order ?l_law_is_order ?c_law_is_order ?k_law_is_order ?a_law ?l_law ?c_law ?k_law ?a_plan_init ?i_plan_init ?l_plan_init ?c_plan_init ?k_plan_init ?a_plan_eq ?i_plan_eq ?l_plan_eq ?c_plan_eq ?k_plan_eq ?a_closed_init ?i_closed_init ?l_closed_init ?c_closed_init ?k_closed_init ?a_closed_len ?i_closed_len ?l_closed_len ?c_closed_len ?k_closed_len ?a_closed_eq ?i_closed_eq ?l_closed_eq ?c_closed_eq ?k_closed_eq ?a_closed_le ?i_closed_le ?l_closed_le ?c_closed_le ?k_closed_le ?a_closed_and ?i_closed_and ?l_closed_and ?c_closed_and ?k_closed_and ?a_closed_or ?i_closed_or ?l_closed_or ?c_closed_or ?k_closed_or ?l_dfl
    (case aP => k_is)
    (case aC => k_is)
    (case pgP => k_is)
    (case hdP => k_is)
    (case poP => k_is)
    (case saP => k_is)
    (case mkP => k_is)
    (case kcP => k_is)
    (case iaP => k_is)
    (case imP => k_is)
    (case nfP => k_is)
    (case noP_kinds => k_is)
    (case noP_pairs => k_is)
    (case noP_own_crossing => k_is)
    (case pgC => k_is)
    (case hdC => k_is)
    (case poC => k_is)
    (case saC => k_is)
    (case mkC => k_is)
    (case kcC => k_is)
    (case iaC => k_is)
    (case imC => k_is)
    (case nfC => k_is)
    (case noC_plan => k_is)
    (case noC_tables => k_is)
    (case noC_own_places => k_is)
    (case sfC => k_is)
    (case neP => k_is)
    (case ign => k_is)
    (case igt => k_is)
    (case aL => k_is)
    (case aM => k_is)
    (case z_isinstance => k_is)
    (case z_len => k_is)
    (case z_all => k_is)
    (case z_set => k_is)
    (case z_tuple => k_is)
    (case z_zip => k_is)
    (case z_enumerate => k_is)
    (case z_range => k_is)
    (case z_int => k_is)
    (case z_list => k_is)
    (case z_min => k_is)
    (case z_abs => k_is)
    (case z_str => k_is)
    (case z_sorted => k_is)
    (case z_bool => k_is)
    (case a_is_integer => k_is)
    (case l_is_integer => k_is)
    (case c_is_integer => k_is)
    (case k_is_integer => k_is)
    (case a_is_list => k_is)
    (case l_is_list => k_is)
    (case c_is_list => k_is)
    (case k_is_list => k_is)
    (case a_need_same => k_is)
    (case l_need_same => k_is)
    (case c_need_same => k_is)
    (case k_need_same => k_is)
    (case a_are_letters => k_is)
    (case l_are_letters => k_is)
    (case c_are_letters => k_is)
    (case k_are_letters => k_is)
    (case a_ascending => k_is)
    (case l_ascending => k_is)
    (case c_ascending => k_is)
    (case k_ascending => k_is)
    (case a_checked_pairs => k_is)
    (case l_checked_pairs => k_is)
    (case c_checked_pairs => k_is)
    (case k_checked_pairs => k_is)
    (case a_need_few => k_is)
    (case l_need_few => k_is)
    (case c_need_few => k_is)
    (case k_need_few => k_is)
    (case a_crossing_table => k_is)
    (case l_crossing_table => k_is)
    (case c_crossing_table => k_is)
    (case k_crossing_table => k_is)
    (case a_is_table_row => k_is)
    (case l_is_table_row => k_is)
    (case c_is_table_row => k_is)
    (case k_is_table_row => k_is)
    (case a_table_rows => k_is)
    (case l_table_rows => k_is)
    (case c_table_rows => k_is)
    (case k_table_rows => k_is)
    (case a_need_entries => k_is)
    (case l_need_entries => k_is)
    (case c_need_entries => k_is)
    (case k_need_entries => k_is)
    (case a_need_exchanged => k_is)
    (case l_need_exchanged => k_is)
    (case c_need_exchanged => k_is)
    (case k_need_exchanged => k_is)
    (case a_found_places => k_is)
    (case l_found_places => k_is)
    (case c_found_places => k_is)
    (case k_found_places => k_is)
    (case a_numbered_rows => k_is)
    (case l_numbered_rows => k_is)
    (case c_numbered_rows => k_is)
    (case k_numbered_rows => k_is)
    (case a_met_pairs => k_is)
    (case l_met_pairs => k_is)
    (case c_met_pairs => k_is)
    (case k_met_pairs => k_is)
    (case a_following_pairs => k_is)
    (case l_following_pairs => k_is)
    (case c_following_pairs => k_is)
    (case k_following_pairs => k_is)
    (case a_pair_floor => k_is)
    (case l_pair_floor => k_is)
    (case c_pair_floor => k_is)
    (case k_pair_floor => k_is)
    (case a_joint_marks => k_is)
    (case l_joint_marks => k_is)
    (case c_joint_marks => k_is)
    (case k_joint_marks => k_is)
    (case a_merged_row => k_is)
    (case l_merged_row => k_is)
    (case c_merged_row => k_is)
    (case k_merged_row => k_is)
    (case a_law_begin => k_is)
    (case l_law_begin => k_is)
    (case c_law_begin => k_is)
    (case k_law_begin => k_is)
    (case a_law_draw => k_is)
    (case l_law_draw => k_is)
    (case c_law_draw => k_is)
    (case k_law_draw => k_is)
    (case a_law_pick => k_is)
    (case l_law_pick => k_is)
    (case c_law_pick => k_is)
    (case k_law_pick => k_is)
    (case a_law_scene => k_is)
    (case l_law_scene => k_is)
    (case c_law_scene => k_is)
    (case k_law_scene => k_is)
    (case a_law_cross => k_is)
    (case l_law_cross => k_is)
    (case c_law_cross => k_is)
    (case k_law_cross => k_is)
    (case a_law_fit => k_is)
    (case l_law_fit => k_is)
    (case c_law_fit => k_is)
    (case k_law_fit => k_is)
    (case a_law_doors => k_is)
    (case l_law_doors => k_is)
    (case c_law_doors => k_is)
    (case k_law_doors => k_is)
    (case a_law_lists => k_is)
    (case l_law_lists => k_is)
    (case c_law_lists => k_is)
    (case k_law_lists => k_is)
    (case a_law_is_order => k_is)
    (case l_law_is_order => k_is)
    (case c_law_is_order => k_is)
    (case k_law_is_order => k_is)
    (case a_law => k_is)
    (case l_law => k_is)
    (case c_law => k_is)
    (case k_law => k_is)
    (case a_plan_init => k_is)
    (case i_plan_init => k_is)
    (case l_plan_init => k_is)
    (case c_plan_init => k_is)
    (case k_plan_init => k_is)
    (case a_plan_eq => k_is)
    (case i_plan_eq => k_is)
    (case l_plan_eq => k_is)
    (case c_plan_eq => k_is)
    (case k_plan_eq => k_is)
    (case a_closed_init => k_is)
    (case i_closed_init => k_is)
    (case l_closed_init => k_is)
    (case c_closed_init => k_is)
    (case k_closed_init => k_is)
    (case a_closed_len => k_is)
    (case i_closed_len => k_is)
    (case l_closed_len => k_is)
    (case c_closed_len => k_is)
    (case k_closed_len => k_is)
    (case a_closed_eq => k_is)
    (case i_closed_eq => k_is)
    (case l_closed_eq => k_is)
    (case c_closed_eq => k_is)
    (case k_closed_eq => k_is)
    (case a_closed_le => k_is)
    (case i_closed_le => k_is)
    (case l_closed_le => k_is)
    (case c_closed_le => k_is)
    (case k_closed_le => k_is)
    (case a_closed_and => k_is)
    (case i_closed_and => k_is)
    (case l_closed_and => k_is)
    (case c_closed_and => k_is)
    (case k_closed_and => k_is)
    (case a_closed_or => k_is)
    (case i_closed_or => k_is)
    (case l_closed_or => k_is)
    (case c_closed_or => k_is)
    (case k_closed_or => k_is)
    (case l_dfl => k_is)
