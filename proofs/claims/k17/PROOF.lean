import PyProof.Rows.All
import Wide.All
import OpenK.AllK
import Wide.FinOn
import HandS.ForMost
import HandS.More
import HandS.Conv
import KE.SortData
import PyProof.ReprRoads
import HandS.IsInst
import HandS.DictComp
import KE.KDictCopyH
import KE.KDictPairs
import KE.KDictDisplayH
import PyProof.DictUpdate
import HandS.TupLe
import HandS.TupAny
import HandS.Zip
import KE.DataCmp
import KE.GoesMore
import HandS.SortRule
import PySem.Challenge.RW_idleclauses_k17_whole_matchings
import HandS.Ends
import HandS.RaiseMore
set_option Elab.async false
set_option linter.all false
section
/-! Plain law: ties of clauses to names, as the program makes them; no program in sight. -/
namespace Idle

/-! ### small facts on lists -/
/-- each item once -/
def once : List Int → List Int
  | [] => []
  | x :: xs => if x ∈ once xs then once xs else x :: once xs
theorem mem_once {x : Int} : ∀ {xs : List Int}, x ∈ once xs ↔ x ∈ xs
  | [] => Iff.rfl
  | y :: ys => by
    unfold once
    by_cases h : y ∈ once ys
    · rw [if_pos h, mem_once, List.mem_cons]
      exact ⟨.inr, fun q => q.elim (fun e => by rw [e]; exact mem_once.mp h) id⟩
    · rw [if_neg h, List.mem_cons, List.mem_cons, mem_once]
theorem once_nodup : ∀ xs : List Int, (once xs).Nodup
  | [] => by simp [once]
  | y :: ys => by
    unfold once
    by_cases h : y ∈ once ys
    · rw [if_pos h]; exact once_nodup ys
    · rw [if_neg h, List.nodup_cons]; exact ⟨h, once_nodup ys⟩
theorem len_le {α : Type} [DecidableEq α] : ∀ {xs ys : List α}, xs.Nodup → (∀ x ∈ xs, x ∈ ys) → xs.length ≤ ys.length
  | [], ys, _, _ => Nat.zero_le _
  | x :: xs, ys, hn, hs => by
    have hx : x ∈ ys := hs x List.mem_cons_self
    obtain ⟨h1, h2⟩ := List.nodup_cons.mp hn
    have ih := len_le (xs := xs) (ys := ys.erase x) h2 fun y hy => by
      have hne : y ≠ x := fun e => h1 (by rw [← e]; exact hy)
      exact (List.mem_erase_of_ne hne).mpr (hs y (List.mem_cons_of_mem _ hy))
    have hl := List.length_erase_of_mem hx
    have hp : 0 < ys.length := List.length_pos_of_mem hx
    rw [List.length_cons]
    omega
theorem len_eq {α : Type} [DecidableEq α] {xs ys : List α} (h1 : xs.Nodup) (h2 : ys.Nodup) (h : ∀ x, x ∈ xs ↔ x ∈ ys) : xs.length = ys.length :=
  Nat.le_antisymm (len_le h1 fun x hx => (h x).mp hx) (len_le h2 fun x hx => (h x).mpr hx)
theorem filter_split {α : Type} (p : α → Bool) : ∀ xs : List α, (xs.filter p).length + (xs.filter fun x => !p x).length = xs.length
  | [] => rfl
  | x :: xs => by
    have ih := filter_split p xs
    rw [List.filter_cons, List.filter_cons]
    cases p x <;> simp <;> omega
theorem nodup_map {α β : Type} {f : α → β} : ∀ {xs : List α}, xs.Nodup → (∀ x ∈ xs, ∀ y ∈ xs, f x = f y → x = y) → (xs.map f).Nodup
  | [], _, _ => by simp
  | x :: xs, hn, hi => by
    obtain ⟨h1, h2⟩ := List.nodup_cons.mp hn
    rw [List.map_cons, List.nodup_cons]
    refine ⟨fun hm => ?_, nodup_map h2 fun a ha b hb => hi a (List.mem_cons_of_mem _ ha) b (List.mem_cons_of_mem _ hb)⟩
    obtain ⟨y, hy, e⟩ := List.mem_map.mp hm
    exact h1 (by rw [hi x List.mem_cons_self y (List.mem_cons_of_mem _ hy) e.symm]; exact hy)
theorem nodup_of_map {α β : Type} {f : α → β} : ∀ {xs : List α}, (xs.map f).Nodup → xs.Nodup
  | [], _ => by simp
  | x :: xs, h => by
    rw [List.map_cons, List.nodup_cons] at h
    rw [List.nodup_cons]
    exact ⟨fun hm => h.1 (List.mem_map.mpr ⟨x, hm, rfl⟩), nodup_of_map h.2⟩
/-- two ascending lists of ints with the same members are one -/
theorem asc_ext : ∀ {xs ys : List Int}, xs.Pairwise (· < ·) → ys.Pairwise (· < ·) → (∀ z, z ∈ xs ↔ z ∈ ys) → xs = ys
  | [], [], _, _, _ => rfl
  | [], y :: ys, _, _, h => absurd ((h y).mpr List.mem_cons_self) (by simp)
  | x :: xs, [], _, _, h => absurd ((h x).mp List.mem_cons_self) (by simp)
  | x :: xs, y :: ys, hx, hy, h => by
    obtain ⟨x1, x2⟩ := List.pairwise_cons.mp hx
    obtain ⟨y1, y2⟩ := List.pairwise_cons.mp hy
    have e : x = y := by
      rcases List.mem_cons.mp ((h x).mp List.mem_cons_self) with e | e
      · exact e
      · rcases List.mem_cons.mp ((h y).mpr List.mem_cons_self) with e' | e'
        · exact e'.symm
        · have := x1 y e'; have := y1 x e; omega
    subst e
    refine congrArg (x :: ·) (asc_ext x2 y2 fun z => ⟨fun hz => ?_, fun hz => ?_⟩)
    · rcases List.mem_cons.mp ((h z).mp (List.mem_cons_of_mem _ hz)) with e | e
      · have := x1 z hz; omega
      · exact e
    · rcases List.mem_cons.mp ((h z).mpr (List.mem_cons_of_mem _ hz)) with e | e
      · have := y1 z hz; omega
      · exact e
theorem asc_nodup {xs : List Int} (h : xs.Pairwise (· < ·)) : xs.Nodup := h.imp fun q e => by omega
theorem asc_of {xs : List Int} (h : xs.Pairwise (· ≤ ·)) (hn : xs.Nodup) : xs.Pairwise (· < ·) := by
  refine (h.and hn).imp fun {a b} q => ?_
  have h1 := q.1
  have h2 : a ≠ b := q.2
  omega

/-! ### the numbers 0 .. m - 1 -/
def upto (m : Nat) : List Int := (List.range m).map fun (i : Nat) => (i : Int)
theorem mem_upto {m : Nat} {c : Int} : c ∈ upto m ↔ 0 ≤ c ∧ c < m := by
  unfold upto
  rw [List.mem_map]
  constructor
  · rintro ⟨i, hi, rfl⟩
    have := List.mem_range.mp hi
    omega
  · rintro ⟨h0, h1⟩
    exact ⟨c.toNat, List.mem_range.mpr (by omega), by omega⟩
theorem upto_len (m : Nat) : (upto m).length = m := by unfold upto; rw [List.length_map, List.length_range]
theorem upto_asc (m : Nat) : (upto m).Pairwise (· < ·) := by
  unfold upto
  rw [List.pairwise_map]
  exact List.pairwise_lt_range.imp fun h => by omega
theorem upto_nodup (m : Nat) : (upto m).Nodup := asc_nodup (upto_asc m)

/-! ### ties: names to numbers of clauses -/
abbrev Ties := List (Int × Int)
def getB (B : Ties) (x : Int) : Option Int := (B.find? fun p => decide (p.1 = x)).map (·.2)
def putB (B : Ties) (x c : Int) : Ties := if (B.any fun p => decide (p.1 = x)) = true then B.map (fun p => if p.1 = x then (p.1, c) else p) else B ++ [(x, c)]
theorem getB_nil (x : Int) : getB [] x = none := rfl
theorem getB_pos {p : Int × Int} {r : Ties} {x : Int} (e : p.1 = x) : getB (p :: r) x = some p.2 := by simp [getB, List.find?_cons, e]
theorem getB_neg {p : Int × Int} {r : Ties} {x : Int} (e : ¬ p.1 = x) : getB (p :: r) x = getB r x := by simp [getB, List.find?_cons, e]
theorem any_get (x : Int) : ∀ B : Ties, (B.any fun p => decide (p.1 = x)) = (getB B x).isSome
  | [] => rfl
  | p :: r => by
    rw [List.any_cons]
    by_cases e : p.1 = x
    · rw [getB_pos e, decide_eq_true e]; rfl
    · rw [getB_neg e, decide_eq_false e, Bool.false_or]; exact any_get x r
theorem getB_map (x y c : Int) : ∀ B : Ties, getB (B.map fun p => if p.1 = x then (p.1, c) else p) y = (getB B y).map fun d => if y = x then c else d
  | [] => rfl
  | p :: r => by
    have ih := getB_map x y c r
    rw [List.map_cons]
    by_cases h : p.1 = x
    · rw [if_pos h]
      by_cases e : p.1 = y
      · rw [getB_pos (p := (p.1, c)) e, getB_pos e, Option.map_some, if_pos (e.symm.trans h)]
      · rw [getB_neg (p := (p.1, c)) e, getB_neg e, ih]
    · rw [if_neg h]
      by_cases e : p.1 = y
      · rw [getB_pos e, getB_pos e, Option.map_some, if_neg (fun q => h (e.trans q))]
      · rw [getB_neg e, getB_neg e, ih]
theorem getB_snoc (x y c : Int) : ∀ B : Ties, getB B x = none → getB (B ++ [(x, c)]) y = if y = x then some c else getB B y
  | [], _ => by
    by_cases e : x = y
    · rw [if_pos e.symm]; exact getB_pos (p := (x, c)) e
    · rw [if_neg (fun q => e q.symm)]; exact getB_neg (p := (x, c)) e
  | p :: r, hn => by
    rw [List.cons_append]
    by_cases h : p.1 = x
    · rw [getB_pos h] at hn; cases hn
    · rw [getB_neg h] at hn
      have ih := getB_snoc x y c r hn
      by_cases e : p.1 = y
      · rw [getB_pos e, getB_pos e, if_neg (fun q => h (e.trans q))]
      · rw [getB_neg e, getB_neg e, ih]
theorem getB_put (B : Ties) (x y c : Int) : getB (putB B x c) y = if y = x then some c else getB B y := by
  unfold putB
  rw [any_get]
  cases e : getB B x with
  | none =>
    rw [if_neg (by simp)]
    exact getB_snoc x y c B e
  | some d =>
    rw [if_pos (by simp), getB_map]
    by_cases h : y = x
    · subst h; rw [e, if_pos rfl]; simp
    · rw [if_neg h]
      cases getB B y <;> simp [h]
theorem getB_mem {B : Ties} {x c : Int} (h : getB B x = some c) : (x, c) ∈ B := by
  unfold getB at h
  cases e : B.find? (fun p => decide (p.1 = x)) with
  | none => rw [e] at h; cases h
  | some p =>
    rw [e] at h
    have h2 : p.2 = c := Option.some.inj h
    have h1 : p.1 = x := of_decide_eq_true (show decide (p.1 = x) = true from List.find?_some (p := fun q : Int × Int => decide (q.1 = x)) e)
    have := List.mem_of_find?_eq_some e
    rw [← h1, ← h2]; exact this
theorem getB_of_mem {x c : Int} : ∀ {B : Ties}, (B.map (·.1)).Nodup → (x, c) ∈ B → getB B x = some c
  | [], _, h => by cases h
  | p :: r, hn, h => by
    rw [List.map_cons, List.nodup_cons] at hn
    rcases List.mem_cons.mp h with e | h
    · subst e; exact getB_pos rfl
    · have : ¬ p.1 = x := fun e => hn.1 (by rw [e]; exact List.mem_map.mpr ⟨_, h, rfl⟩)
      rw [getB_neg this]
      exact getB_of_mem hn.2 h
theorem getB_none {B : Ties} {x : Int} (h : getB B x = none) : x ∉ B.map (·.1) := by
  intro hm
  obtain ⟨p, hp, e⟩ := List.mem_map.mp hm
  have q : (B.any fun p => decide (p.1 = x)) = true := List.any_eq_true.mpr ⟨p, hp, decide_eq_true e⟩
  rw [any_get, h] at q; cases q
theorem put_keys (B : Ties) (x c : Int) : (putB B x c).map (·.1) = if (getB B x).isSome then B.map (·.1) else B.map (·.1) ++ [x] := by
  unfold putB
  rw [any_get]
  cases e : getB B x with
  | none => rw [if_neg (by simp), if_neg (by simp), List.map_append]; rfl
  | some d =>
    rw [if_pos (by simp), if_pos (by simp), List.map_map]
    refine List.map_congr_left fun p _ => ?_
    show (if p.1 = x then (p.1, c) else p).1 = p.1
    by_cases h : p.1 = x
    · rw [if_pos h]
    · rw [if_neg h]
theorem put_nodup {B : Ties} (x c : Int) (h : (B.map (·.1)).Nodup) : ((putB B x c).map (·.1)).Nodup := by
  rw [put_keys]
  cases e : getB B x with
  | none =>
    rw [if_neg (by simp)]
    rw [List.nodup_append]
    refine ⟨h, by simp, fun a ha b hb => ?_⟩
    rw [List.mem_singleton] at hb
    subst hb
    intro q; subst q
    exact getB_none e ha
  | some d => rw [if_pos (by simp)]; exact h
theorem put_valid {B : Ties} {L : Int → List Int} {x c : Int} (h : ∀ p ∈ B, p.1 ∈ L p.2) (hx : x ∈ L c) : ∀ p ∈ putB B x c, p.1 ∈ L p.2 := by
  intro p hp
  unfold putB at hp
  split at hp
  · obtain ⟨q, hq, e⟩ := List.mem_map.mp hp
    by_cases h1 : q.1 = x
    · rw [if_pos h1] at e; subst e
      show q.1 ∈ L c
      rw [h1]; exact hx
    · rw [if_neg h1] at e; subst e; exact h q hq
  · rcases List.mem_append.mp hp with hp | hp
    · exact h p hp
    · rw [List.mem_singleton] at hp; subst hp; exact hx
theorem put_perm_new {B : Ties} {x c : Int} (e : getB B x = none) : ((putB B x c).map (·.2)).Perm (c :: B.map (·.2)) := by
  unfold putB
  rw [any_get, e, if_neg (by simp), List.map_append]
  exact List.perm_append_comm
theorem map_same {x c : Int} : ∀ {B : Ties}, x ∉ B.map (·.1) → (B.map fun p => if p.1 = x then (p.1, c) else p) = B
  | [], _ => rfl
  | p :: r, h => by
    rw [List.map_cons] at h ⊢
    have h1 : ¬ p.1 = x := fun e => h (by rw [e]; exact List.mem_cons_self)
    rw [if_neg h1, map_same fun hm => h (List.mem_cons_of_mem _ hm)]
theorem put_perm_old {x c d : Int} : ∀ {B : Ties}, (B.map (·.1)).Nodup → getB B x = some d → (d :: (putB B x c).map (·.2)).Perm (c :: B.map (·.2)) := by
  intro B hn e
  unfold putB
  rw [any_get, e, if_pos (by simp)]
  have core : ∀ {B : Ties}, (B.map (·.1)).Nodup → getB B x = some d → (d :: (B.map fun p => if p.1 = x then (p.1, c) else p).map (·.2)).Perm (c :: B.map (·.2)) := by
    intro B
    induction B with
    | nil => intro _ e; cases e
    | cons p r ih =>
      intro hn e
      rw [List.map_cons, List.nodup_cons] at hn
      by_cases h : p.1 = x
      · rw [getB_pos h] at e
        have e2 : p.2 = d := Option.some.inj e
        rw [List.map_cons, if_pos h, map_same (by rw [← h]; exact hn.1), List.map_cons, List.map_cons, e2]
        exact List.Perm.swap _ _ _
      · rw [getB_neg h] at e
        rw [List.map_cons, if_neg h, List.map_cons, List.map_cons]
        refine (List.Perm.swap _ _ _).trans (((ih hn.2 e).cons p.2).trans (List.Perm.swap _ _ _))
  exact core hn e

/-! ### one augmenting look, as is_grown goes -/
def scan (g : Ties → Int → List Int → Bool × Ties × List Int) (c : Int) : List Int → Ties → List Int → Bool × Ties × List Int
  | [], B, T => (false, B, T)
  | x :: xs, B, T =>
    if x ∈ T then scan g c xs B T
    else match getB B x with
      | none => (true, putB B x c, T ++ [x])
      | some d =>
        match g B d (T ++ [x]) with
        | (true, B2, T2) => (true, putB B2 x c, T2)
        | (false, B2, T2) => scan g c xs B2 T2
def grow (L : Int → List Int) : Nat → Ties → Int → List Int → Bool × Ties × List Int
  | 0, B, _, T => (false, B, T)
  | f + 1, B, c, T => scan (grow L f) c (L c) B T

/-- fewer than k names are still untried -/
def Few (L : Int → List Int) (T : List Int) (k : Nat) : Prop := ∃ U : List Int, U.length < k ∧ ∀ c x, x ∈ L c → x ∈ T ∨ x ∈ U
theorem Few.mono {L : Int → List Int} {T T' : List Int} {k : Nat} (h : Few L T k) (hs : ∀ x ∈ T, x ∈ T') : Few L T' k :=
  let ⟨U, h1, h2⟩ := h; ⟨U, h1, fun c x hx => (h2 c x hx).imp (hs x) id⟩
theorem Few.next {L : Int → List Int} {T : List Int} {k : Nat} {c x : Int} (h : Few L T (k + 1)) (hx : x ∈ L c) (hn : x ∉ T) : Few L (T ++ [x]) k := by
  obtain ⟨U, h1, h2⟩ := h
  have hu : x ∈ U := (h2 c x hx).resolve_left hn
  refine ⟨U.erase x, ?_, fun c' y hy => ?_⟩
  · have := List.length_erase_of_mem hu
    have := List.length_pos_of_mem hu
    omega
  · by_cases e : y = x
    · exact .inl (List.mem_append_right _ (by rw [e]; exact List.mem_singleton.mpr rfl))
    · exact (h2 c' y hy).imp (fun q => List.mem_append_left _ q) fun q => (List.mem_erase_of_ne e).mpr q
theorem Few.zero {L : Int → List Int} {T : List Int} (h : Few L T 0) : False := let ⟨_, h1, _⟩ := h; Nat.not_lt_zero _ h1

/-- a set of names that no new way leads out of -/
def Shut (L : Int → List Int) (B : Ties) (Z : List Int) : Prop := ∀ x ∈ Z, ∃ d, getB B x = some d ∧ ∀ y ∈ L d, y ∈ Z

structure GrowOk (L : Int → List Int) (B : Ties) (c : Int) (xs T : List Int) (o : Bool × Ties × List Int) : Prop where
  sub : ∀ x ∈ T, x ∈ o.2.2
  no : o.1 = false → o.2.1 = B ∧ (∀ x ∈ xs, x ∈ o.2.2) ∧ ∀ x ∈ o.2.2, x ∉ T → ∃ d, getB B x = some d ∧ ∀ y ∈ L d, y ∈ o.2.2
  perm : o.1 = true → (o.2.1.map (·.2)).Perm (c :: B.map (·.2))
  keep : o.1 = true → ∀ x ∈ T, getB o.2.1 x = getB B x
  valid : ∀ p ∈ o.2.1, p.1 ∈ L p.2
  nd : (o.2.1.map (·.1)).Nodup
  grows : ∀ x, (getB B x).isSome → (getB o.2.1 x).isSome
  shutNo : ∀ Z, Shut L B Z → (∀ x ∈ xs, x ∈ Z) → o.1 = false
  shutKeep : ∀ Z, Shut L B Z → ∀ x ∈ Z, getB o.2.1 x = getB B x

theorem scan_ok {L : Int → List Int} {g : Ties → Int → List Int → Bool × Ties × List Int} {k : Nat} {c : Int}
    (hg : ∀ B d T, Few L T k → (∀ p ∈ B, p.1 ∈ L p.2) → (B.map (·.1)).Nodup → GrowOk L B d (L d) T (g B d T)) :
    ∀ (xs : List Int) (B : Ties) (T : List Int), (∀ x ∈ xs, x ∈ L c) → Few L T (k + 1) → (∀ p ∈ B, p.1 ∈ L p.2) → (B.map (·.1)).Nodup → GrowOk L B c xs T (scan g c xs B T)
  | [], B, T, _, _, hv, hn => ⟨fun x h => h, fun _ => ⟨rfl, fun x h => (by simp at h), fun x h h' => absurd h h'⟩, fun h => (by cases h), fun h => (by cases h), hv, hn, fun x h => h, fun Z _ _ => rfl, fun Z _ x _ => rfl⟩
  | x :: xs, B, T, hx, hf, hv, hn => by
    have hxs : ∀ y ∈ xs, y ∈ L c := fun y hy => hx y (List.mem_cons_of_mem _ hy)
    have hxc : x ∈ L c := hx x List.mem_cons_self
    unfold scan
    by_cases ht : x ∈ T
    · rw [if_pos ht]
      have ih := scan_ok hg xs B T hxs hf hv hn
      refine ⟨ih.sub, fun h => ?_, ih.perm, ih.keep, ih.valid, ih.nd, ih.grows, fun Z hz hs => ih.shutNo Z hz fun y hy => hs y (List.mem_cons_of_mem _ hy), ih.shutKeep⟩
      obtain ⟨h1, h2, h3⟩ := ih.no h
      refine ⟨h1, fun y hy => ?_, h3⟩
      rcases List.mem_cons.mp hy with e | hy
      · rw [e]; exact ih.sub x ht
      · exact h2 y hy
    · rw [if_neg ht]
      cases e : getB B x with
      | none =>
        refine ⟨fun y h => List.mem_append_left _ h, fun h => (by cases h), fun _ => put_perm_new e, fun _ y hy => ?_, put_valid hv hxc, put_nodup x c hn, fun y h => ?_, fun Z hz hs => ?_, fun Z hz y hy => ?_⟩
        · rw [getB_put, if_neg (fun q => ht (by rw [← q]; exact hy))]
        · show (getB (putB B x c) y).isSome = true
          rw [getB_put]
          by_cases q : y = x
          · rw [if_pos q]; rfl
          · rw [if_neg q]; exact h
        · obtain ⟨d, h1, _⟩ := hz x (hs x List.mem_cons_self)
          rw [e] at h1; cases h1
        · show getB (putB B x c) y = _
          rw [getB_put, if_neg]
          rintro rfl
          obtain ⟨d, h1, _⟩ := hz y hy
          rw [e] at h1; cases h1
      | some d =>
        have G := hg B d (T ++ [x]) (hf.next hxc ht) hv hn
        show GrowOk L B c (x :: xs) T (match g B d (T ++ [x]) with | (true, B2, T2) => (true, putB B2 x c, T2) | (false, B2, T2) => scan g c xs B2 T2)
        generalize g B d (T ++ [x]) = o at G
        obtain ⟨r, B2, T2⟩ := o
        cases r with
        | true =>
          have k1 : getB B2 x = some d := by
            rw [show getB B2 x = getB B x from G.keep rfl x (by simp)]; exact e
          refine ⟨fun y h => G.sub y (List.mem_append_left _ h), fun h => (by cases h), fun _ => ?_, fun _ y hy => ?_, put_valid G.valid hxc, put_nodup x c G.nd, fun y h => ?_, fun Z hz hs => ?_, fun Z hz y hy => ?_⟩
          · have p1 := put_perm_old (c := c) G.nd k1
            have p2 : (B2.map (·.2)).Perm (d :: B.map (·.2)) := G.perm rfl
            have p3 := p1.trans ((p2.cons c).trans (List.Perm.swap _ _ _))
            exact p3.cons_inv
          · show getB (putB B2 x c) y = _
            rw [getB_put, if_neg (fun q => ht (by rw [← q]; exact hy))]
            exact G.keep rfl y (List.mem_append_left _ hy)
          · show (getB (putB B2 x c) y).isSome = true
            rw [getB_put]
            by_cases q : y = x
            · rw [if_pos q]; rfl
            · rw [if_neg q]; exact G.grows y h
          · exfalso
            obtain ⟨d', h1, h2⟩ := hz x (hs x List.mem_cons_self)
            rw [e] at h1
            have h1 : d = d' := Option.some.inj h1
            subst h1
            have := G.shutNo Z hz h2
            cases this
          · show getB (putB B2 x c) y = _
            rw [getB_put, if_neg]
            · exact G.shutKeep Z hz y hy
            · rintro rfl
              obtain ⟨d', h1, h2⟩ := hz y hy
              rw [e] at h1
              have h1 : d = d' := Option.some.inj h1
              subst h1
              have := G.shutNo Z hz h2
              cases this
        | false =>
          obtain ⟨g1, g2, g3⟩ := G.no rfl
          have g1 : B2 = B := g1
          subst g1
          have hsub : ∀ y ∈ T, y ∈ T2 := fun y hy => G.sub y (List.mem_append_left _ hy)
          have ih := scan_ok hg xs B2 T2 hxs (hf.mono hsub) hv hn
          show GrowOk L B2 c (x :: xs) T (scan g c xs B2 T2)
          refine ⟨fun y h => ih.sub y (hsub y h), fun h => ?_, ih.perm, fun h y hy => ih.keep h y (hsub y hy), ih.valid, ih.nd, ih.grows, fun Z hz hs => ih.shutNo Z hz fun y hy => hs y (List.mem_cons_of_mem _ hy), ih.shutKeep⟩
          obtain ⟨h1, h2, h3⟩ := ih.no h
          refine ⟨h1, fun y hy => ?_, fun y hy hyT => ?_⟩
          · rcases List.mem_cons.mp hy with q | hy
            · rw [q]; exact ih.sub x (G.sub x (by simp))
            · exact h2 y hy
          · by_cases q : y ∈ T2
            · by_cases q2 : y = x
              · refine ⟨d, by rw [q2]; exact e, fun z hz => ih.sub z (g2 z hz)⟩
              · obtain ⟨d', z1, z2⟩ := g3 y q (fun hm => (List.mem_append.mp hm).elim hyT fun w => q2 (List.mem_singleton.mp w))
                exact ⟨d', z1, fun z hz => ih.sub z (z2 z hz)⟩
            · exact h3 y hy q
theorem grow_ok {L : Int → List Int} : ∀ (k : Nat) (B : Ties) (c : Int) (T : List Int), Few L T k → (∀ p ∈ B, p.1 ∈ L p.2) → (B.map (·.1)).Nodup → GrowOk L B c (L c) T (grow L k B c T)
  | 0, _, _, _, h, _, _ => h.zero.elim
  | k + 1, B, c, T, h, hv, hn => scan_ok (fun B d T => grow_ok k B d T) (L c) B T (fun _ q => q) h hv hn

/-! ### all ties -/
def tiesOf (L : Int → List Int) (k : Nat) (cs : List Int) : Ties := cs.foldl (fun B c => (grow L k B c []).2.1) []
structure TiesOk (L : Int → List Int) (cs : List Int) (B : Ties) : Prop where
  nd : (B.map (·.1)).Nodup
  ndv : (B.map (·.2)).Nodup
  valid : ∀ p ∈ B, p.1 ∈ L p.2
  sub : ∀ p ∈ B, p.2 ∈ cs
  left : ∀ c ∈ cs, c ∉ B.map (·.2) → ∃ Z, Shut L B Z ∧ ∀ x ∈ L c, x ∈ Z
theorem ties_step {L : Int → List Int} {k : Nat} {cs : List Int} {B : Ties} {c : Int} (hf : Few L [] k) (h : TiesOk L cs B) (hc : c ∉ cs) : TiesOk L (cs ++ [c]) (grow L k B c []).2.1 := by
  have G := grow_ok (L := L) k B c [] hf h.valid h.nd
  generalize grow L k B c [] = o at G
  obtain ⟨r, B2, T2⟩ := o
  have shut : ∀ Z, Shut L B Z → Shut L B2 Z := fun Z hz x hx => by
    obtain ⟨d, h1, h2⟩ := hz x hx
    exact ⟨d, by rw [show getB B2 x = getB B x from G.shutKeep Z hz x hx]; exact h1, h2⟩
  cases r with
  | false =>
    obtain ⟨g1, g2, g3⟩ := G.no rfl
    have g1 : B2 = B := g1
    subst g1
    refine ⟨h.nd, h.ndv, h.valid, fun p hp => List.mem_append_left _ (h.sub p hp), fun c' hc' hn => ?_⟩
    rcases List.mem_append.mp hc' with q | q
    · exact h.left c' q hn
    · rw [List.mem_singleton] at q
      subst q
      exact ⟨T2, fun x hx => g3 x hx (by simp), g2⟩
  | true =>
    have p : (B2.map (·.2)).Perm (c :: B.map (·.2)) := G.perm rfl
    refine ⟨G.nd, ?_, G.valid, fun q hq => ?_, fun c' hc' hn => ?_⟩
    · rw [p.nodup_iff, List.nodup_cons]
      refine ⟨fun hm => hc ?_, h.ndv⟩
      obtain ⟨q, hq, e⟩ := List.mem_map.mp hm
      rw [← e]; exact h.sub q hq
    · have : q.2 ∈ c :: B.map (·.2) := p.mem_iff.mp (List.mem_map.mpr ⟨q, hq, rfl⟩)
      rcases List.mem_cons.mp this with e | hm
      · rw [e]; simp
      · obtain ⟨z, hz, e⟩ := List.mem_map.mp hm
        rw [← e]; exact List.mem_append_left _ (h.sub z hz)
    · have hn : c' ∉ B2.map (·.2) := hn
      have hn2 : c' ∉ c :: B.map (·.2) := fun q => hn (p.mem_iff.mpr q)
      rcases List.mem_append.mp hc' with q | q
      · obtain ⟨Z, z1, z2⟩ := h.left c' q fun q2 => hn2 (List.mem_cons_of_mem _ q2)
        exact ⟨Z, shut Z z1, z2⟩
      · rw [List.mem_singleton] at q
        exact absurd (by rw [q]; exact List.mem_cons_self) hn2
theorem ties_ok {L : Int → List Int} {k : Nat} (hf : Few L [] k) : ∀ (cs : List Int), cs.Nodup → TiesOk L cs (tiesOf L k cs) := by
  have go : ∀ (cs done : List Int) (B : Ties), TiesOk L done B → (done ++ cs).Nodup → TiesOk L (done ++ cs) (cs.foldl (fun B c => (grow L k B c []).2.1) B) := by
    intro cs
    induction cs with
    | nil => intro done B h _; rw [List.append_nil]; exact h
    | cons c cs ih =>
      intro done B h hn
      have hn2 : ((done ++ [c]) ++ cs).Nodup := by rw [List.append_assoc]; exact hn
      have hc : c ∉ done := fun hm => by
        have := (List.nodup_append.mp hn).2.2 c hm c List.mem_cons_self
        exact this rfl
      have := ih (done ++ [c]) _ (ties_step hf h hc) hn2
      rw [List.append_assoc] at this
      exact this
  intro cs hn
  exact go cs [] [] ⟨by simp, by simp, fun p hp => (by simp at hp), fun p hp => (by simp at hp), fun c hc => (by simp at hc)⟩ hn

/-! ### what is come to from the untied ones -/
inductive Reach (L : Int → List Int) (B : Ties) (cs : List Int) : Int → Prop
  | base {c : Int} : c ∈ cs → c ∉ B.map (·.2) → Reach L B cs c
  | step {c x d : Int} : Reach L B cs c → x ∈ L c → getB B x = some d → Reach L B cs d
section
variable {L : Int → List Int} {B : Ties} {cs : List Int}
theorem Reach.shut (K : TiesOk L cs B) {c : Int} (h : Reach L B cs c) : ∃ Z, Shut L B Z ∧ ∀ x ∈ L c, x ∈ Z := by
  induction h with
  | base h1 h2 => exact K.left _ h1 h2
  | step h1 h2 h3 ih =>
    obtain ⟨Z, z1, z2⟩ := ih
    obtain ⟨d', q1, q2⟩ := z1 _ (z2 _ h2)
    rw [h3] at q1
    have q1 := Option.some.inj q1
    subst q1
    exact ⟨Z, z1, q2⟩
theorem Reach.tied (K : TiesOk L cs B) {c x : Int} (h : Reach L B cs c) (hx : x ∈ L c) : ∃ d, getB B x = some d := by
  obtain ⟨Z, z1, z2⟩ := h.shut K
  obtain ⟨d, h1, _⟩ := z1 x (z2 x hx)
  exact ⟨d, h1⟩
theorem Reach.mem (K : TiesOk L cs B) {c : Int} (h : Reach L B cs c) : c ∈ cs := by
  cases h with
  | base h1 _ => exact h1
  | step _ _ h3 => exact K.sub _ (getB_mem h3)

theorem val_inj {x y c : Int} (K : TiesOk L cs B) (h1 : getB B x = some c) (h2 : getB B y = some c) : x = y := by
  have m1 := getB_mem h1
  have m2 := getB_mem h2
  have key : ∀ {B : Ties}, (B.map (·.2)).Nodup → (x, c) ∈ B → (y, c) ∈ B → x = y := by
    intro B
    induction B with
    | nil => intro _ h; cases h
    | cons p r ih =>
      intro hn h1 h2
      rw [List.map_cons, List.nodup_cons] at hn
      rcases List.mem_cons.mp h1 with e1 | h1 <;> rcases List.mem_cons.mp h2 with e2 | h2
      · have := e1.trans e2.symm
        exact (Prod.mk.inj this).1
      · exact absurd (List.mem_map.mpr ⟨_, h2, by rw [← e1]⟩) hn.1
      · exact absurd (List.mem_map.mpr ⟨_, h1, by rw [← e2]⟩) hn.1
      · exact ih hn.2 h1 h2
  exact key K.ndv m1 m2

/-- how many clauses are left untied -/
theorem untied_len (K : TiesOk L cs B) (hn : cs.Nodup) : (cs.filter fun c => !decide (c ∈ B.map (·.2))).length + B.length = cs.length := by
  have h1 := filter_split (fun c => decide (c ∈ B.map (·.2))) cs
  have h2 : (cs.filter fun c => decide (c ∈ B.map (·.2))).length = (B.map (·.2)).length := by
    refine len_eq (hn.filter _) K.ndv fun c => ?_
    rw [List.mem_filter, decide_eq_true_eq]
    constructor
    · exact fun h => h.2
    · intro h
      obtain ⟨p, hp, e⟩ := List.mem_map.mp h
      exact ⟨by rw [← e]; exact K.sub p hp, h⟩
  rw [List.length_map] at h2
  omega

/-- whichever clauses: they are more than their names by at most the untied ones -/
theorem more_le (K : TiesOk L cs B) (hn : cs.Nodup) {ns nm : List Int} (h1 : ns.Nodup) (h2 : ∀ c ∈ ns, c ∈ cs) (h4 : ∀ c ∈ ns, ∀ x ∈ L c, x ∈ nm) : ns.length + B.length ≤ nm.length + cs.length := by
  have s := filter_split (fun c => decide (c ∈ B.map (·.2))) ns
  have u := untied_len K hn
  have a : (ns.filter fun c => !decide (c ∈ B.map (·.2))).length ≤ (cs.filter fun c => !decide (c ∈ B.map (·.2))).length := by
    refine len_le (h1.filter _) fun c hc => ?_
    obtain ⟨q1, q2⟩ := List.mem_filter.mp hc
    exact List.mem_filter.mpr ⟨h2 c q1, q2⟩
  have b1 : (ns.filter fun c => decide (c ∈ B.map (·.2))).length ≤ ((B.filter fun p => decide (p.2 ∈ ns)).map (·.2)).length := by
    refine len_le (h1.filter _) fun c hc => ?_
    obtain ⟨q1, q2⟩ := List.mem_filter.mp hc
    obtain ⟨p, hp, e⟩ := List.mem_map.mp (of_decide_eq_true q2)
    exact List.mem_map.mpr ⟨p, List.mem_filter.mpr ⟨hp, decide_eq_true (by rw [e]; exact q1)⟩, e⟩
  have b2 : ((B.filter fun p => decide (p.2 ∈ ns)).map (·.1)).length ≤ nm.length := by
    refine len_le ((List.Sublist.map _ List.filter_sublist).nodup K.nd) fun x hx => ?_
    obtain ⟨p, hp, e⟩ := List.mem_map.mp hx
    obtain ⟨q1, q2⟩ := List.mem_filter.mp hp
    rw [← e]
    exact h4 p.2 (of_decide_eq_true q2) p.1 (K.valid p q1)
  rw [List.length_map] at b1 b2
  omega

/-- the clauses come to: just so many more than their names -/
theorem more_reach (K : TiesOk L cs B) (hn : cs.Nodup) {ns nm : List Int} (h1 : ns.Nodup) (h2 : ∀ c, c ∈ ns ↔ Reach L B cs c) (h3 : nm.Nodup) (h4 : ∀ x, x ∈ nm ↔ ∃ c ∈ ns, x ∈ L c) : ns.length + B.length = nm.length + cs.length := by
  have s := filter_split (fun c => decide (c ∈ B.map (·.2))) ns
  have u := untied_len K hn
  have a : (ns.filter fun c => !decide (c ∈ B.map (·.2))).length = (cs.filter fun c => !decide (c ∈ B.map (·.2))).length := by
    refine len_eq (h1.filter _) (hn.filter _) fun c => ?_
    rw [List.mem_filter, List.mem_filter]
    constructor
    · exact fun q => ⟨((h2 c).mp q.1).mem K, q.2⟩
    · exact fun q => ⟨(h2 c).mpr (.base q.1 (by simpa using q.2)), q.2⟩
  have b : (ns.filter fun c => decide (c ∈ B.map (·.2))).length = (nm.map fun x => (getB B x).getD 0).length := by
    refine len_eq (h1.filter _) (nodup_map h3 fun x hx y hy e => ?_) fun c => ?_
    · obtain ⟨c1, p1, p2⟩ := (h4 x).mp hx
      obtain ⟨c2, r1, r2⟩ := (h4 y).mp hy
      obtain ⟨d1, e1⟩ := ((h2 c1).mp p1).tied K p2
      obtain ⟨d2, e2⟩ := ((h2 c2).mp r1).tied K r2
      rw [e1, e2] at e
      have e : d1 = d2 := e
      exact val_inj K e1 (by rw [e2, e])
    · rw [List.mem_filter]
      constructor
      · rintro ⟨q1, q2⟩
        refine List.mem_map.mpr ?_
        obtain ⟨p, hp, e⟩ := List.mem_map.mp (of_decide_eq_true q2)
        refine ⟨p.1, (h4 p.1).mpr ⟨c, q1, by rw [← e]; exact K.valid p hp⟩, ?_⟩
        rw [getB_of_mem K.nd (show (p.1, p.2) ∈ B from hp)]
        exact e
      · intro hm
        obtain ⟨x, hx, e⟩ := List.mem_map.mp hm
        obtain ⟨c1, p1, p2⟩ := (h4 x).mp hx
        have R := (h2 c1).mp p1
        obtain ⟨d1, e1⟩ := R.tied K p2
        rw [e1] at e
        have e : d1 = c := e
        subst e
        exact ⟨(h2 _).mpr (.step R p2 e1), decide_eq_true (List.mem_map.mpr ⟨_, getB_mem e1, rfl⟩)⟩
  rw [List.length_map] at b
  omega

/-- no pairing has more pairs -/
theorem pairs_le (K : TiesOk L cs B) (hn : cs.Nodup) {M : List (Int × Int)} (h1 : (M.map (·.1)).Nodup) (h2 : (M.map (·.2)).Nodup) (h3 : ∀ p ∈ M, p.1 ∈ cs ∧ p.2 ∈ L p.1) : M.length ≤ B.length := by
  classical
  let ns := cs.filter fun c => decide (Reach L B cs c)
  let nm := once (ns.map L).flatten
  have hns : ns.Nodup := hn.filter _
  have mns : ∀ c, c ∈ ns ↔ Reach L B cs c := fun c => by
    show c ∈ cs.filter _ ↔ _
    rw [List.mem_filter, decide_eq_true_eq]
    exact ⟨fun q => q.2, fun q => ⟨q.mem K, q⟩⟩
  have hnm : nm.Nodup := once_nodup _
  have mnm : ∀ x, x ∈ nm ↔ ∃ c ∈ ns, x ∈ L c := fun x => by
    show x ∈ once _ ↔ _
    rw [mem_once, List.mem_flatten]
    constructor
    · rintro ⟨l, hl, hx⟩
      obtain ⟨c, hc, e⟩ := List.mem_map.mp hl
      exact ⟨c, hc, by rw [e]; exact hx⟩
    · rintro ⟨c, hc, hx⟩
      exact ⟨L c, List.mem_map.mpr ⟨c, hc, rfl⟩, hx⟩
  have key := more_reach K hn hns mns hnm mnm
  have s := filter_split (fun p : Int × Int => decide (p.1 ∈ ns)) M
  have a : ((M.filter fun p => decide (p.1 ∈ ns)).map (·.2)).length ≤ nm.length := by
    refine len_le ((List.Sublist.map _ List.filter_sublist).nodup h2) fun x hx => ?_
    obtain ⟨p, hp, e⟩ := List.mem_map.mp hx
    obtain ⟨q1, q2⟩ := List.mem_filter.mp hp
    exact (mnm x).mpr ⟨p.1, of_decide_eq_true q2, by rw [← e]; exact (h3 p q1).2⟩
  have b : ((M.filter fun p => !decide (p.1 ∈ ns)).map (·.1)).length ≤ (cs.filter fun c => !decide (c ∈ ns)).length := by
    refine len_le ((List.Sublist.map _ List.filter_sublist).nodup h1) fun c hc => ?_
    obtain ⟨p, hp, e⟩ := List.mem_map.mp hc
    obtain ⟨q1, q2⟩ := List.mem_filter.mp hp
    rw [← e]
    exact List.mem_filter.mpr ⟨(h3 p q1).1, q2⟩
  have c1 := filter_split (fun c => decide (c ∈ ns)) cs
  have c2 : (cs.filter fun c => decide (c ∈ ns)).length = ns.length := len_eq (hn.filter _) hns fun c => by
    rw [List.mem_filter, decide_eq_true_eq]
    exact ⟨fun q => q.2, fun q => ⟨((mns c).mp q).mem K, q⟩⟩
  rw [List.length_map] at a b
  omega
end
end Idle
end
section
set_option maxRecDepth 100000
set_option maxHeartbeats 4000000
/-! Rules that the layer lacks, 1: repr of nested data; sorted of tuples of ints of any length (an empty one among them), out of a dict with tuple keys; sorted of a tuple of ints. -/
namespace IdR
open PySem PySem.W PyProof.Rows SeqAt

section
variable {prog : Program} {w : World} {A : Around} {E : Value → Shared → Prop} {s : Shared}
/-- the data of a tuple of ints -/
abbrev tupD (ns : List Int) : PyData := .tuple (ns.map .int)
theorem alike_tups (xs ys : List Int) : alike (tupD xs) (tupD ys) = true := by
  show alike (.tuple (xs.map .int)) (.tuple (ys.map .int)) = true
  rw [alike]
  exact alike_ints xs ys
theorem depth_tup (ns : List Int) : (tupD ns).depth = 1 := by
  show PyData.depth (.tuple (ns.map .int)) = 1
  rw [PyData.depth, depth_ints]

/-- one tuple of ints against another, where all keys are of one type -/
theorem oneLt_tups {ns ms : List Int} {a b : Value} {as bs : List Addr} {Q : Bool → Shared → Prop} (ra : Reads s.heap a (tupD ns) as) (rb : Reads s.heap b (tupD ms) bs) (hu : A.units + 1 < cLine) (hq : Q (dataLt (tupD ns) (tupD ms)) s) :
    wpAny (model prog w) A (oneLt' true a b) Q E s := by
  have hal : alikeAll (ns.map PyData.int) (ms.map PyData.int) = true := alike_ints ns ms
  have hd1 : PyData.depthAll (ns.map PyData.int) = 0 := depth_ints ns
  have hd2 : PyData.depthAll (ms.map PyData.int) = 0 := depth_ints ms
  have hroom : A.in1.units + min (PyData.depthAll (ns.map PyData.int)) (PyData.depthAll (ms.map PyData.int)) < cLine := by
    rw [hd1, hd2]
    exact hu
  cases ra with
  | @tuple l o vs n _ as1 h1 h2 h3 h4 =>
    cases rb with
    | @tuple l2 o2 vs2 n2 _ bs1 k1 k2 k3 k4 =>
      have e1 : vs.size = (ns.map PyData.int).length := by simpa using SeqAt.ReadsAll.length _ _ _ h4
      have e2 : vs2.size = (ms.map PyData.int).length := by simpa using SeqAt.ReadsAll.length _ _ _ k4
      rw [dataLt_tuple, ← firstLt_toks _ _ hal, ← e1, ← e2] at hq
      rw [oneLt'_eq]
      simp only [if_true]
      refine wpAny_bind (wpAny_cRoomFor (by omega) ?_)
      obtain ⟨cls, dd, data, sl⟩ := o
      obtain ⟨cls2, dd2, data2, sl2⟩ := o2
      simp only at h2 h3 k2 k3
      subst h2 h3 k2 k3
      refine wpAny_bind (wpAny_callSpecialIfBound?_slot (T := "tuple") ⟨_, h1, rfl⟩ F.slot_tuple_lt (call_meets F.slot_tuple_lt ⟨_, h1, rfl⟩ F.entry_tuple_lt (F.args_tuple_lt_2 _ _)
        (tuple_ltAt l l2 vs vs2 n n2 dd dd2 sl sl2 (pairEq (ns.map PyData.int) (ms.map PyData.int)) (fun j => dataLt ((ns.map PyData.int).getD j .none) ((ms.map PyData.int).getD j .none))) ⟨h1, k1, fun j j1 j2 => ?_, fun j j1 j2 hj => ?_, ?_⟩))
      · have q := eqAt_alikeAll _ _ A.in1 s vs.toList vs2.toList _ _ h4 k4 hal hroom j (by simpa using j1) (by simpa using j2)
        simpa using q
      · have q := rcLt_alikeAll _ _ A.in1 s vs.toList vs2.toList _ _ h4 k4 hal hroom j (by simpa using j1) (by simpa using j2) hj
        simpa using q
      · exact wpAny_truthy_bool hq

theorem ltAt_one {ds : List PyData} (hal : AllAlike ds) (ht : ∀ d ∈ ds, ∃ ns, d = tupD ns) (hu : A.units + 1 < cLine) : PyProof.Rows.H.LtAt prog w A s (dataKind s.heap ds) oneType' := by
  intro E x y a b Q ha hb hq
  obtain ⟨d, as, hd, ra, rfl⟩ := dataKind_inv ha
  obtain ⟨d2, bs, hd2, rb, rfl⟩ := dataKind_inv hb
  obtain ⟨ns, rfl⟩ := ht d hd
  obtain ⟨ms, rfl⟩ := ht d2 hd2
  rw [keyLt'_oneType]
  exact oneLt_tups ra rb hu hq
theorem ltAt_gen {ds : List PyData} (hal : AllAlike ds) (ht : ∀ d ∈ ds, ∃ ns, d = tupD ns) (hu : A.units + 1 < cLine) : PyProof.Rows.H.LtAt prog w A s (dataKind s.heap ds) general' := by
  intro E x y a b Q ha hb hq
  obtain ⟨d, as, hd, ra, rfl⟩ := dataKind_inv ha
  obtain ⟨d2, bs, hd2, rb, rfl⟩ := dataKind_inv hb
  obtain ⟨ns, rfl⟩ := ht d hd
  obtain ⟨ms, rfl⟩ := ht d2 hd2
  show wpAny (model prog w) A (oneLt' false x y) Q E s
  exact oneLt_alike (fun z => by cases z) ra rb (alike_tups ns ms) (fun z => by cases z) (by rw [depth_tup, depth_tup]; exact hu) hq

/-- what the first look at the keys gives, tuple by tuple -/
theorem firsts_tups {M : Model} : ∀ (vs : List Value) (ds : List PyData) {Q : List (Option Value) → Shared → Prop}, EachIs (fun v d => ∃ as, Reads s.heap v d as) vs ds → (∀ d ∈ ds, ∃ ns, d = tupD ns) →
    (∀ fs : List (Option Value), fs.length = vs.length → (∀ (i : Nat) (f : Option Value), fs[i]? = some f → (f = none ↔ ds[i]? = some (tupD []))) → Q fs s) → wpAny M A (vs.mapM firstOfTuple') Q E s
  | [], _, Q, .nil, _, h => by
    rw [List.mapM_nil]
    exact wpAny_pure (h [] rfl fun i f e => by simp at e)
  | v :: vs, d :: ds, Q, .cons ⟨as, r⟩ t, ht, h => by
    obtain ⟨ns, rfl⟩ := ht d List.mem_cons_self
    rw [List.mapM_cons]
    refine wpAny_bind ?_
    cases r with
    | @tuple l o xs n _ as1 h1 h2 h3 h4 =>
      rw [kas_first_eq]
      refine wpAny_bind (Looks.here (show Looks M s.heap (typeOf (.ref l)) o.cls from (Looks.ld h1).andThen .now) ?_)
      rw [h2, if_neg (by first | decide | simp)]
      refine wpAny_bind (listItems_at h1 h3 (wpAny_pure ?_))
      refine wpAny_bind (firsts_tups vs ds (Q := fun bs s' => wpAny M A (pure (xs[0]? :: bs)) Q E s') t (fun d hd => ht d (List.mem_cons_of_mem _ hd)) fun fs hl hf => wpAny_pure (h _ (by rw [List.length_cons, List.length_cons, hl]) fun i f e => ?_))
      cases i with
      | zero =>
        have e' : xs[0]? = f := Option.some.inj e
        have sz : xs.size = ns.length := by simpa using SeqAt.ReadsAll.length _ _ _ h4
        rw [← e']
        show xs[0]? = none ↔ some (tupD ns) = some (tupD [])
        cases ns with
        | nil =>
          refine ⟨fun _ => rfl, fun _ => ?_⟩
          exact Array.getElem?_eq_none (by rw [sz]; exact Nat.le_refl _)
        | cons n ns =>
          refine ⟨fun z => ?_, fun z => ?_⟩
          · have := Array.getElem?_eq_none_iff.mp z
            rw [sz, List.length_cons] at this
            omega
          · have z2 := Option.some.inj z
            injection z2 with z3
            cases z3
      | succ i => exact hf i f (by simpa using e)

theorem sortsAt_tups {vs : List Value} {ds : List PyData} (e : EachIs (fun v d => ∃ as, Reads s.heap v d as) vs ds) (ht : ∀ d ∈ ds, ∃ ns, d = tupD ns) (hu : A.units + 1 < cLine) : SortsAt prog w A s (dataKind s.heap ds) vs := by
  have hal : AllAlike ds := fun d hd d2 hd2 => by
    obtain ⟨ns, rfl⟩ := ht d hd
    obtain ⟨ms, rfl⟩ := ht d2 hd2
    exact alike_tups ns ms
  by_cases h0 : tupD [] ∈ ds
  · refine ⟨fun v hv => ?_, ?_⟩
    · obtain ⟨d, hd, as, r⟩ := e.left v hv
      exact ⟨_, dataKind_some hal hd r⟩
    · -- the kind hangs on the first key
      obtain ⟨i0, hi0⟩ := List.getElem?_of_mem h0
      have hlen : vs.length = ds.length := e.length
      have key : ∀ kd : SortKind, (2 ≤ vs.length → ∀ (E : Value → Shared → Prop) {Q : SortKind → Shared → Prop}, Q kd s → wpAny (model prog w) A (keyKind' vs.toArray) Q E s) → PyProof.Rows.H.LtAt prog w A s (dataKind s.heap ds) kd →
          ∃ kd : SortKind, PyProof.Rows.H.LtAt prog w A s (dataKind s.heap ds) kd ∧ (2 ≤ vs.length → ∀ (E : Value → Shared → Prop) {Q : SortKind → Shared → Prop}, Q kd s → wpAny (model prog w) A (keyKind' vs.toArray) Q E s) := fun kd a b => ⟨kd, b, a⟩
      have notAll : ∀ fs : List (Option Value), fs.length = vs.length → (∀ (i : Nat) (f : Option Value), fs[i]? = some f → (f = none ↔ ds[i]? = some (tupD []))) → (fs.toArray.all fun x => x.isSome) = false := by
        intro fs hl hf
        obtain ⟨hlt, hd⟩ := List.getElem?_eq_some_iff.mp hi0
        have hlt2 : i0 < fs.length := by rw [hl, hlen]; exact hlt
        have q := (hf i0 _ (List.getElem?_eq_getElem hlt2)).mpr hi0
        rw [List.all_toArray, ← Bool.not_eq_true]
        intro z
        have := List.all_eq_true.mp z fs[i0] (List.getElem_mem hlt2)
        rw [q] at this
        cases this
      by_cases hf0 : ds[0]? = some (tupD [])
      · refine key oneType' (fun h2 E Q hq => ?_) (ltAt_one hal ht hu)
        rw [kat_kind_eq, List.mapM_toArray, map_eq_pure_bind]
        refine wpAny_bind (wpAny_bind (firsts_tups vs ds e ht fun fs hl hf => wpAny_pure ?_))
        rw [if_neg (by rw [notAll fs hl hf]; simp)]
        have hb : ((fs.toArray[0]?).bind id).isSome = false := by
          cases fs with
          | nil => rfl
          | cons f fs =>
            have q := (hf 0 f rfl).mpr hf0
            subst q
            rfl
        rw [if_neg (by rw [hb]; simp)]
        rw [oneTypeOnly'_eq, List.mapM_toArray, map_eq_pure_bind]
        refine wpAny_bind (wpAny_bind (wpAny_bind (kas_mapM (r := Value.type "tuple") _ (fun v hv Q' hq' => ?_) (wpAny_pure ?_))))
        · obtain ⟨d, hd, as, r⟩ := e.left v hv
          obtain ⟨ns, rfl⟩ := ht d hd
          cases r with
          | @tuple l o xs n _ as1 h1 h2' h3 h4 =>
            exact wpAny_typeOf (T := "tuple") ⟨o, h1, h2'⟩ hq'
        · have hall : ((List.map (fun _ => Value.type "tuple") vs).toArray.all fun x => x == Value.type "tuple") = true := by
            rw [List.all_toArray, List.all_eq_true]
            intro x hx
            obtain ⟨_, _, rfl⟩ := List.mem_map.mp hx
            rfl
          have hne : (List.map (fun _ => Value.type "tuple") vs).toArray[0]? = some (Value.type "tuple") := by
            cases vs with
            | nil => simp at h2
            | cons v vs => rfl
          rw [hne]
          simp only [hall, if_true]
          exact wpAny_pure (wpAny_pure hq)
      · refine key general' (fun h2 E Q hq => ?_) (ltAt_gen hal ht hu)
        rw [kat_kind_eq, List.mapM_toArray, map_eq_pure_bind]
        refine wpAny_bind (wpAny_bind (firsts_tups vs ds e ht fun fs hl hf => wpAny_pure ?_))
        rw [if_neg (by rw [notAll fs hl hf]; simp)]
        have hb : ((fs.toArray[0]?).bind id).isSome = true := by
          cases fs with
          | nil => rw [← hl] at h2; simp at h2
          | cons f fs =>
            cases f with
            | none => exact absurd ((hf 0 none rfl).mp rfl) hf0
            | some x => rfl
        rw [if_pos hb]
        exact wpAny_pure hq
  · refine SortsAt.data e hal (.inl fun d hd => ?_) fun d hd => ?_
    · obtain ⟨ns, rfl⟩ := ht d hd
      cases ns with
      | nil => exact absurd hd h0
      | cons n ns => exact ⟨.int n, ns.map .int, rfl⟩
    · obtain ⟨ns, rfl⟩ := ht d hd
      rw [depth_tup]
      exact hu

/-- the order of tuples of ints, as lists -/
theorem dataLe_tups {β : Type} (f : β → List Int) : dataLe false (fun b => tupD (f b)) = fun p q => !decide (f q < f p) := by
  funext p q
  rw [dataLe_eq]
  show (!dataLt (tupD (f q)) (tupD (f p))) = _
  rw [dataLt_tuple]
  have q := dataLt_ints (f q) (f p)
  unfold rowLt at q
  rw [q]
end
end IdR
end
section
set_option maxRecDepth 100000
set_option maxHeartbeats 4000000
/-! Rules that the layer lacks, 2: as rules of the layer. -/
namespace IdR
open PySem PySem.W PyProof.Rows SeqAt

section
variable {prog : Program} {w : World} {A : Around} {E : Value → Shared → Prop} {s : Shared} {β : Type}
/-- sorted(src), whatever is collected out of src: items that read as data -/
theorem sorted_by {src : Value} {vs : List Value} {bs : List β} {enc : β → PyData} {R : Value → β → Prop} {Q : Value → Shared → Prop}
    (hcol : ∀ (E' : Value → Shared → Prop) (R' : List Value → Shared → Prop), (∀ h' tk, (∀ b o, s.heap.get? b = some o → h'.get? b = some o) → R' vs { s with heap := h', toks := tk }) → wpAny (model prog w) A.in1 (collect src) R' E' s)
    (e : EachIs R vs bs) (er : EachIs (fun v b => ∃ as, Reads s.heap v (enc b) as) vs bs) (hal : AllAlike (bs.map enc)) (hL : bs.length ≤ sizeLine)
    (SA : ∀ s2 : Shared, EachIs (fun v d => ∃ as, Reads s2.heap v d as) vs (bs.map enc) → SortsAt prog w A.in1.in1 s2 (dataKind s2.heap (bs.map enc)) vs)
    (h : ∀ (h1 h2 : Heap) (tk : Nat) (out : List Value) (c : Nat), (∀ b o, s.heap.get? b = some o → h1.get? b = some o) → (∀ b o, h1.get? b = some o → h2.get? b = some o) → h2.get? h1.objs.size = some (seqObj "list" out.toArray c) → EachIs R out (bs.mergeSort (dataLe false enc)) → Q (.ref h1.objs.size) { s with heap := h2, toks := tk }) :
    wpAny (model prog w) A (call (.builtin "sorted") [src]) Q E s := by
  have hlen : vs.length = bs.length := e.length
  refine Calls.call_function_entry PyProof.Rows.kind_sorted PyProof.Rows.plain_sorted PyProof.Rows.entry_sorted (PyProof.Rows.args_sorted1 _) ?_
  unfold Builtin.«sorted»
  refine wpAny_bind (m := checkCount "sorted" 1 1 _) (wpAny_pure ?_)
  refine wpAny_bind (hcol _ _ fun h' tk hk => ?_)
  refine wpAny_bind (wpAny_newList ?_ (by rw [hlen]; exact hL))
  have hoL : (h'.push (seqObj "list" vs.toArray 0)).get? h'.objs.size = some (seqObj "list" vs.toArray 0) := Heap.get?_push_size _ rfl
  show wpAny _ _ _ _ _ { s with heap := h'.push (seqObj "list" vs.toArray 0), toks := tk }
  have old1 : ∀ b o, h'.get? b = some o → (h'.push (seqObj "list" vs.toArray 0)).get? b = some o := fun b o q => Heap.get?_push_of_some _ q
  have neL : ∀ b o, h'.get? b = some o → b ≠ h'.objs.size := fun b o q => Nat.ne_of_lt (Heap.lt_size q)
  have er1 : EachIs (fun v b => ∃ as, Reads (sortingHeap (h'.push (seqObj "list" vs.toArray 0)) h'.objs.size vs) v (enc b) as) vs bs :=
    er.mono fun _ _ ⟨as, r⟩ => ⟨as, PyProof.Rows.Reads.keeps (fun b o q => sortingHeap_old (neL b o (hk b o q)) (old1 b o (hk b o q))) r⟩
  refine wpAny_bind (wpAny_holding (wpAny_call_entry PyProof.Rows.slot_list_sort ⟨_, hoL, rfl⟩ PyProof.Rows.entry_list_sort
    (list_sort_vals (s := { s with heap := h'.push (seqObj "list" vs.toArray 0), toks := tk }) hoL
      (SA { s with heap := sortingHeap (h'.push (seqObj "list" vs.toArray 0)) h'.objs.size vs, toks := tk } (each_map (R := fun v d => ∃ as, Reads (sortingHeap (h'.push (seqObj "list" vs.toArray 0)) h'.objs.size vs) v d as) enc er1))
      (by rw [hlen]; exact hL) ⟨_, rfl, ?_⟩) (PyProof.Rows.args_list_sort _)))
  refine wpAny_pure ⟨_, rfl, ?_⟩
  obtain ⟨c, hc⟩ := sortedHeap_at (vs := vs) (out := (sortVals (dataKind (sortingHeap (h'.push (seqObj "list" vs.toArray 0)) h'.objs.size vs) (bs.map enc)) false vs vs).toArray) hoL
  refine h h' _ tk _ c hk (fun b o q => ?_) hc (sortVals_data false e er1 hal)
  exact (sortedHeap_old (neL b o q) (Heap.lt_size (old1 b o q))).trans (old1 b o q)
end

open L2
section
variable {X : Cx}
/-! ### repr of nested data -/
def rReprD (K : PySem.W.Frag) : List V → Hp → VK → Prop := fun xs H Q => ∃ (a : Addr) (d : PyData), xs = [.ref a] ∧ Dp K H (.ref a) d ∧ d.showable = true ∧ d.hasDict = false ∧ d.depth ≤ 50 ∧ d.shown.length ≤ sizeLine ∧ Q (.str d.shown) H
theorem call_reprD (hg : X.A.guards = some []) (hu : X.A.units + 64 < cLine) : CallR X (.builtin "repr") (rReprD X.K) := by
  intro pins s σ H xs us Q I r h
  obtain ⟨a, d, rfl, hd, hs, hn, hdep, hl, q⟩ := h
  obtain ⟨u, rfl, ru⟩ := vals1 r
  obtain rfl : u = Value.ref a := ru
  obtain ⟨as, rd⟩ := Dp.reads I d (.ref a) (.ref a) hd rfl
  refine repr_of_reads' (hsz := hl) rd hs (fun z => by rw [hn] at z; cases z) hg (by omega) (fun _ _ e => e) fun h' u tk hk => ?_
  exact ⟨.str d.shown, H, I.kept (t' := tk) hk, ⟨_, rfl⟩, q⟩

/-! ### sorted -/
theorem collect_tupI {pins : List (Addr × Obj)} {σ : L2.St} {H : Hp} {s : Shared} {a : Addr} {xs : List V} {us : List Value} {A : Around} (I : Inv X pins σ H s) (hz : xs.length ≤ sizeLine) (rv : Vals xs us) (p : IsTup s.heap a us.toArray) (E' : Value → Shared → Prop) (R' : List Value → Shared → Prop)
    (h : ∀ h' tk, (∀ b o, s.heap.get? b = some o → h'.get? b = some o) → R' us { s with heap := h', toks := tk }) : wpAny (model X.prog X.w) A (collect (.ref a)) R' E' s := by
  obtain ⟨o, ho, hc, n, hd⟩ := p
  refine wpAny_collect_seq a (T := "tuple") (.inr rfl) ho hc hd (fun h' hk => ?_) (by rw [List.size_toArray, ← rv.length]; exact hz)
  exact h h' s.toks hk
/-- the ints of some values -/
theorem vals_intsE : ∀ {ns : List Int} {us : List Value}, Vals (ns.map V.int) us → EachIs (fun v (n : Int) => RelV (.int n) v) us ns
  | [], us, r => by
    have r' : Vals [] us := r
    cases r'
    exact .nil
  | n :: ns, us, r => by
    have r' : Vals (V.int n :: ns.map V.int) us := r
    cases r' with
    | cons a b => exact .cons a (vals_intsE b)
theorem vals_of_each {β : Type} {f : β → V} : ∀ {us : List Value} {bs : List β}, EachIs (fun v b => RelV (f b) v) us bs → Vals (bs.map f) us
  | _, _, .nil => .nil
  | _, _, .cons a b => .cons a (vals_of_each b)
theorem dpAll_ints {K : PySem.W.Frag} {H : Hp} : ∀ ns : List Int, DpAll K H (ns.map V.int) (ns.map .int)
  | [] => .nil
  | n :: ns => .cons (.int n) (dpAll_ints ns)
theorem lt_of_lt_not {a b c : List Int} (h1 : c < a) (h2 : ¬ b < a) : c < b := by
  rcases Decidable.em (c < b) with h | h
  · exact h
  · have e1 : b ≤ c := List.not_lt.mp h
    have e2 : a ≤ b := List.not_lt.mp h2
    exact absurd h1 (List.not_lt.mpr (List.le_trans e2 e1))
/-- a new list, laid while older objects are kept -/
theorem laid_list {pins : List (Addr × Obj)} {σ : L2.St} {H : Hp} {s : Shared} {h1 h2 : Heap} {tk c : Nat} {xs : List V} {out : List Value} (I : Inv X pins σ H s) (k1 : ∀ b o, s.heap.get? b = some o → h1.get? b = some o) (k2 : ∀ b o, h1.get? b = some o → h2.get? b = some o)
    (hp : h2.get? h1.objs.size = some (seqObj "list" out.toArray c)) (hz : xs.length ≤ sizeLine) (rv : Vals xs out) : H h1.objs.size = none ∧ Inv X pins σ (upd H h1.objs.size (.lst xs)) { s with heap := h2, toks := tk } := by
  have I1 : Inv X pins σ H { s with heap := h1, toks := tk } := I.kept k1
  exact ⟨I1.hok.fresh (Nat.le_refl _), I1.laid (t' := tk) k2 (Nat.le_refl _) ⟨hz, out, c, rv, hp⟩⟩
def rSortedTI (K : PySem.W.Frag) : List V → Hp → VK → Prop := fun vs H Q => ∃ (a : Addr) (ns : List Int), vs = [.ref a] ∧ SqT K H a (ns.map V.int) ∧
  ∀ (ms : List Int) (p : Addr), ms.Perm ns → ms.Pairwise (· ≤ ·) → H p = none → Q (.ref p) (upd H p (.lst (ms.map V.int)))
/-- sorted(t), t a tuple of ints -/
theorem cr_sortedTI (hu : X.A.units + 64 < cLine) : CallR X (.builtin "sorted") (rSortedTI X.K) := by
  intro pins s σ H vs us Q I r h
  obtain ⟨a, ns, rfl, ht, q⟩ := h
  obtain ⟨u, rfl, ru⟩ := vals1 r
  obtain rfl : u = Value.ref a := ru
  obtain ⟨its, rv, p, hz⟩ := I.tuple ht
  have e := vals_intsE rv
  have hL : ns.length ≤ sizeLine := by rw [List.length_map] at hz; exact hz
  have hal : AllAlike (ns.map PyData.int) := AllAlike.of fun _ _ => rfl
  refine sorted_by (bs := ns) (enc := PyData.int) (R := fun v n => RelV (.int n) v) (collect_tupI I hz rv p) e (e.mono fun v n hv => ?_) hal hL (fun s2 e2 => SortsAt.data e2 hal (.inr fun d hd => ?_) fun d hd => ?_) fun h1 h2 tk out c k1 k2 hp eo => ?_
  · obtain ⟨t, rfl⟩ := hv
    exact ⟨_, Reads.int n t⟩
  · obtain ⟨n, _, rfl⟩ := List.mem_map.mp hd
    exact ⟨fun z => (by cases z), fun xs z => (by cases z)⟩
  · obtain ⟨n, _, rfl⟩ := List.mem_map.mp hd
    show X.A.units + 1 + 1 + 0 < cLine
    omega
  · have el : dataLe false PyData.int = fun (p q : Int) => decide (p ≤ q) := dataLe_int (fun n : Int => n)
    rw [el] at eo
    have pm : (ns.mergeSort fun p q => decide (p ≤ q)).Perm ns := List.mergeSort_perm _ _
    have pw : (ns.mergeSort fun p q => decide (p ≤ q)).Pairwise (· ≤ ·) := by
      have := List.pairwise_mergeSort (le := fun p q : Int => decide (p ≤ q)) (fun a b c h1 h2 => by simp at h1 h2 ⊢; omega) (fun a b => by simp; omega) ns
      exact this.imp fun h => of_decide_eq_true h
    obtain ⟨hn, I2⟩ := laid_list (tk := tk) (xs := (ns.mergeSort fun p q => decide (p ≤ q)).map V.int) I k1 k2 hp (by rw [List.length_map, pm.length_eq]; exact hL) (vals_of_each eo)
    exact ⟨.ref h1.objs.size, _, I2, rfl, q _ _ pm pw hn⟩

theorem collect_dT {pins : List (Addr × Obj)} {σ : L2.St} {H : Hp} {s : Shared} {d : Addr} {kvs : List (List Key × V)} (hc : X.calm = true) (I : Inv X pins σ H s) (hd : Rd H d (.dT kvs)) :
    ∃ bs : List Addr, IsKeys H kvs bs ∧ bs.length ≤ sizeLine ∧ ∀ (E' : Value → Shared → Prop) (R' : List Value → Shared → Prop), (∀ h' tk, (∀ b o, s.heap.get? b = some o → h'.get? b = some o) → R' (bs.map Value.ref) { s with heap := h', toks := tk }) →
      wpAny (model X.prog X.w) X.A.in1 (collect (.ref d)) R' E' s := by
  obtain ⟨z, hs, ks, pr, o, es, ep, ho, hx, hdt, he, hn⟩ := (show ObjOk X.prog X.w H s.heap d (.dT kvs) from hd.ok I.hok)
  have l1 : es.size = ks.length := size_of_entries he
  have l2 : kvs.length = ks.length := Paired.length pr
  refine ⟨ks.map fun x => x.2.1, isKeys_of pr, by rw [List.length_map]; omega, fun E' R' h => ?_⟩
  refine PySem.W.kdu_collect (A := X.A.in1) (kdl_raw hs hx hdt) (I.ok.hd hc) ho (by omega) fun h' tk acc kp it => ?_
  have ea : acc.toList = (ks.map fun x => x.2.1).map Value.ref := by
    rw [List.map_map]
    have hl : acc.toList.length = ks.length := by rw [Array.length_toList, it.1]; exact l1
    apply List.ext_getElem?
    intro j
    rw [List.getElem?_map]
    cases hj : acc.toList[j]? with
    | none =>
      have q1 := List.getElem?_eq_none_iff.mp hj
      rw [List.getElem?_eq_none (by omega)]
      rfl
    | some v =>
      obtain ⟨en, hen, hv⟩ := it.2 j v (by rw [← Array.getElem?_toList]; exact hj)
      have qe := entry_at he j
      rw [hen] at qe
      cases hb : ks[j]? with
      | none => rw [hb] at qe; exact nomatch (show some en = none from qe)
      | some b =>
        rw [hb] at qe
        have e2 : en = entryOfKey (tupleKind (mixKind X.prog X.w)) b := Option.some.inj qe
        rw [hv, e2]
        rfl
  rw [ea]
  exact h h' tk kp

/-- sorted(d), d a dict whose keys are tuples of ints: a new list of the very keys, ascending -/
def rSortedDT : List V → Hp → VK → Prop := fun vs H Q => ∃ (d : Addr) (kvs : List (List Key × V)) (L : List (List Int)), vs = [.ref d] ∧ Rd H d (.dT kvs) ∧ kvs.map (·.1) = L.map (fun ns => ns.map Sum.inl) ∧
  ∀ (M : List (Addr × List Int)) (p : Addr), (M.map (·.2)).Perm L → M.Pairwise (fun q r => ¬ r.2 < q.2) → (∀ q ∈ M, H q.1 = some (.tup (q.2.map V.int))) → H p = none → Q (.ref p) (upd H p (.lst (M.map fun q => V.ref q.1)))
theorem keys_zip {H : Hp} : ∀ {kvs : List (List Key × V)} {bs : List Addr} {L : List (List Int)}, IsKeys H kvs bs → kvs.map (·.1) = L.map (fun ns => ns.map Sum.inl) →
    ∃ M : List (Addr × List Int), M.map (·.1) = bs ∧ M.map (·.2) = L ∧ ∀ q ∈ M, H q.1 = some (.tup (q.2.map V.int))
  | [], _, L, .nil, e => ⟨[], rfl, by cases L with | nil => rfl | cons _ _ => simp at e, fun q h => by cases h⟩
  | kv :: kvs, _, [], _, e => by simp at e
  | kv :: kvs, _, ns :: L, .cons (b := b) h t, e => by
    rw [List.map_cons, List.map_cons] at e
    injection e with e1 e2
    obtain ⟨M, m1, m2, m3⟩ := keys_zip t e2
    refine ⟨(b, ns) :: M, by rw [List.map_cons, m1], by rw [List.map_cons, m2], fun q hq => ?_⟩
    rcases List.mem_cons.mp hq with rfl | hq
    · rw [e1, List.map_map] at h
      exact h
    · exact m3 q hq
theorem cr_sortedDT (hc : X.calm = true) (hu : X.A.units + 64 < cLine) : CallR X (.builtin "sorted") rSortedDT := by
  intro pins s σ H vs us Q I r h
  obtain ⟨d, kvs, L, rfl, hd, hL, q⟩ := h
  obtain ⟨u, rfl, ru⟩ := vals1 r
  obtain rfl : u = Value.ref d := ru
  obtain ⟨bs, hk, hz, hcol⟩ := collect_dT hc I hd
  obtain ⟨M, m1, m2, m3⟩ := keys_zip hk hL
  have hlen : M.length ≤ sizeLine := by rw [← m1, List.length_map] at hz; exact hz
  have ev : bs.map Value.ref = M.map fun q => Value.ref q.1 := by rw [← m1, List.map_map]; rfl
  rw [ev] at hcol
  have each : ∀ {M : List (Addr × List Int)} {T : Value → Addr × List Int → Prop}, (∀ q ∈ M, T (Value.ref q.1) q) → EachIs T (M.map fun q => Value.ref q.1) M := by
    intro M T
    induction M with
    | nil => intro _; exact .nil
    | cons q M ih => intro h; exact .cons (h q List.mem_cons_self) (ih fun q' hq => h q' (List.mem_cons_of_mem _ hq))
  have ht : ∀ dd ∈ M.map (fun q => tupD q.2), ∃ ns, dd = tupD ns := fun dd hdd => by
    obtain ⟨q, _, rfl⟩ := List.mem_map.mp hdd
    exact ⟨_, rfl⟩
  have hal : AllAlike (M.map fun q => tupD q.2) := AllAlike.of fun _ _ => alike_tups _ _
  refine sorted_by (bs := M) (enc := fun q => tupD q.2) (R := fun v q => v = Value.ref q.1 ∧ H q.1 = some (.tup (q.2.map V.int))) hcol (each fun q hq => ⟨rfl, m3 q hq⟩) (each fun q hq => ?_) hal hlen (fun s2 e2 => sortsAt_tups e2 ht (by show X.A.units + 1 + 1 + 1 < cLine; omega)) fun h1 h2 tk out c k1 k2 hp eo => ?_
  · have dp : Dp X.K H (.ref q.1) (tupD q.2) := .tup (SqT.of (m3 q hq)) (dpAll_ints _)
    exact Dp.reads I _ _ _ dp rfl
  · rw [dataLe_tups] at eo
    have pm : (M.mergeSort fun p q => !decide (q.2 < p.2)).Perm M := List.mergeSort_perm _ _
    have pw : (M.mergeSort fun p q => !decide (q.2 < p.2)).Pairwise (fun q r => ¬ r.2 < q.2) := by
      have := List.pairwise_mergeSort (le := fun p q : Addr × List Int => !decide (q.2 < p.2)) (fun a b c h1 h2 => by
        simp only [Bool.not_eq_true', decide_eq_false_iff_not] at h1 h2 ⊢
        exact fun h3 => h2 (lt_of_lt_not h3 h1)) (fun a b => by
        simp only [Bool.or_eq_true, Bool.not_eq_true', decide_eq_false_iff_not]
        by_cases h : b.2 < a.2
        · exact .inr fun h' => absurd (List.lt_trans h h') (List.lt_irrefl _)
        · exact .inl h) M
      exact this.imp fun h => by simpa using h
    have rv : Vals ((M.mergeSort fun p q => !decide (q.2 < p.2)).map fun q => V.ref q.1) out := vals_of_each (eo.mono fun v q hv => hv.1)
    obtain ⟨hn, I2⟩ := laid_list (tk := tk) I k1 k2 hp (by rw [List.length_map, pm.length_eq]; exact hlen) rv
    exact ⟨.ref h1.objs.size, _, I2, rfl, q _ _ (by rw [← m2]; exact pm.map _) pw (fun q hq => m3 q (pm.mem_iff.mp hq)) hn⟩
end
end IdR
end
section
set_option maxRecDepth 100000
set_option maxHeartbeats 4000000
/-! Rules that the layer lacks, 3: dicts. -/
namespace IdR
open PySem PySem.W PyProof.Rows SeqAt L2
section
variable {X : Cx}
/-- later pairs into earlier ones -/
def mergeT (kvs more : List (List Key × V)) : List (List Key × V) := more.foldl (fun acc kv => putK acc kv.1 kv.2) kvs
theorem length_mergeT : ∀ (more kvs : List (List Key × V)), (mergeT kvs more).length ≤ kvs.length + more.length
  | [], kvs => Nat.le_refl _
  | p :: r, kvs => by
    have h1 := length_mergeT r (putK kvs p.1 p.2)
    have h2 := length_putK kvs p.1 p.2
    show (mergeT (putK kvs p.1 p.2) r).length ≤ _
    rw [List.length_cons]
    omega
theorem ktMerge {H : Hp} {more : List (List Key × V)} {ys : List (List Key × Addr × Value)} (r : KT H more ys) : ∀ {kvs : List (List Key × V)} {xs : List (List Key × Addr × Value)}, KT H kvs xs → KT H (mergeT kvs more) (storedAllH xs ys) := by
  induction r with
  | nil => intro kvs xs q; exact q
  | @cons p q ps qs h t ih =>
    intro kvs xs k
    obtain ⟨h1, h2, h3⟩ := h
    show KT H (mergeT (putK kvs p.1 p.2) ps) (storedAllH (storedH xs q.1 q.2.1 q.2.2) qs)
    rw [← h1]
    exact ih (k.put p.1 h2 h3)
/-- a dict's description from its raw table -/
theorem dt_new {P : Program} {w : World} {H' : Hp} {h' : Heap} {a : Addr} {kvs : List (List Key × V)} {xs : List (List Key × Addr × Value)} (z : kvs.length ≤ sizeLine) (hd : (a == sysModules) = false) (rel : KT H' kvs xs) (dd : h'.DictOfH (tupleKind (mixKind P w)) a xs) :
    ObjOk P w H' h' a (.dT kvs) := by
  obtain ⟨o, es, ep, h1, h2, h3, h4, h5, h6⟩ := dd
  exact ⟨z, hd, xs, rel, o, es, ep, h1, h2, h3, h4, h6⟩

/-! ### d.update(d2) -/
def rUpdK : V → List V → Hp → VK → Prop := fun x vs H Q => ∃ (d o : Addr) (kvs more : List (Key × V)), x = .ref d ∧ vs = [.ref o] ∧ H d = some (.dK kvs) ∧ H o = some (.dK more) ∧ d ≠ o ∧ kvs.length + more.length ≤ sizeLine ∧ Q .non (upd H d (.dK (mergeK kvs more)))
theorem mt_updK : MtR X "dict.update" rUpdK := by
  intro pins s σ H x vs v us Q I rx rv h
  obtain ⟨d, o, kvs, more, rfl, rfl, hd, ho, hne, hz, q⟩ := h
  obtain rfl : v = Value.ref d := rx
  obtain ⟨u, rfl, ru⟩ := vals1 rv
  obtain rfl : u = Value.ref o := ru
  obtain ⟨z1, s1, vs1, r1, d1⟩ := dk_of I.hok hd
  obtain ⟨z2, s2, vs2, r2, d2⟩ := dk_of I.hok ho
  refine call_meetsIn PySem.F.slot_dict_update d1.typeIs PySem.F.entry_dict_update (PySem.F.args_dict_update_2 _ _) (meets_dict_update (mixKind X.prog X.w) d o hne s2) ⟨vs1, vs2, d1, d2, by rw [← r1.length, ← r2.length]; exact hz, fun h' hm _ hs => ?_⟩
  have hl : (mergeK kvs more).length ≤ sizeLine := by
    have := length_mergeK more kvs
    omega
  exact ⟨.non, _, d_write (t' := s.toks) I (by rw [hd]; exact True.intro) hs (let ⟨q, _, _, hq, _⟩ := hm; ⟨q, hq⟩) (dk_new hl s1 (r2.merge r1) hm), rfl, q⟩
def rUpdT : V → List V → Hp → VK → Prop := fun x vs H Q => ∃ (d o : Addr) (kvs more : List (List Key × V)), x = .ref d ∧ vs = [.ref o] ∧ H d = some (.dT kvs) ∧ H o = some (.dT more) ∧ d ≠ o ∧ kvs ≠ [] ∧ kvs.length + more.length ≤ sizeLine ∧ Q .non (upd H d (.dT (mergeT kvs more)))
theorem mt_updT (hu : X.A.units + 64 < cLine) : MtR X "dict.update" rUpdT := by
  intro pins s σ H x vs v us Q I rx rv h
  obtain ⟨d, o, kvs, more, rfl, rfl, hd, ho, hne, hk, hz, q⟩ := h
  obtain rfl : v = Value.ref d := rx
  obtain ⟨u, rfl, ru⟩ := vals1 rv
  obtain rfl : u = Value.ref o := ru
  obtain ⟨z1, s1, xs1, r1, d1⟩ := dt_of I.hok hd
  obtain ⟨z2, s2, xs2, r2, d2⟩ := dt_of I.hok ho
  have l1 : kvs.length = xs1.length := Paired.length r1
  have l2 : more.length = xs2.length := Paired.length r2
  have hne1 : xs1 ≠ [] := fun e => hk (by rw [e] at l1; exact List.length_eq_zero_iff.mp l1)
  refine call_update_dictH (knd := tupleKind (mixKind X.prog X.w)) (by show X.A.units + 1 < cLine; omega) hne s2 d1 d2 (.inl hne1) (by rw [← l1, ← l2]; exact hz) fun h' hd' ho' hs => ?_
  have hl : (mergeT kvs more).length ≤ sizeLine := Nat.le_trans (length_mergeT more kvs) hz
  have kt : KT (upd H d (.dT (mergeT kvs more))) (mergeT kvs more) (storedAllH xs1 xs2) := (ktMerge r2 r1).keeps fun c ys ec => by rw [upd_ne (ne_of ec hd (fun z => nomatch z))]; exact ec
  exact ⟨.non, _, d_write (t' := s.toks) I (by rw [hd]; exact True.intro) hs (let ⟨q, _, _, hq, _⟩ := hd'; ⟨q, hq⟩) (dt_new hl s1 kt hd'), rfl, q⟩

/-! ### dict(d), d with tuple keys -/
theorem kt_call_dictT {prog : Program} {w : World} {A : Around} {E : Value → Shared → Prop} {s : Shared} {K : Type} [DecidableEq K] {knd : HeapKind prog w K} {o : Addr} {more : List (K × Addr × Value)} {Q : Value → Shared → Prop} (hu : knd.room A.in1.in1) (hoS : (o == sysModules) = false)
    (ho : s.heap.DictOfH knd o more) (hst : ∀ x ∈ more, knd.is (s.heap.push { cls := .type "dict", data := .dict #[] }) x.1 x.2.1) (hty : ∀ x ∈ more, s.TypeIs (.ref x.2.1) "tuple") (hap : (more.map fun x => knd.hash x.1).Nodup) (hsz : more.length ≤ sizeLine)
    (h : ∀ h', h'.DictOfH knd s.heap.objs.size more → Heap.SameBut s.heap.objs.size (s.heap.push { cls := .type "dict", data := .dict #[] }) h' → Q (.ref s.heap.objs.size) { s with heap := h' }) :
    wpAny (model prog w) A (call (.type "dict") [.ref o]) Q E s := by
  refine callType_codes (Q₁ := fun obj t => obj = .ref s.heap.objs.size ∧ t = { s with heap := s.heap.push { cls := .type "dict", data := .dict #[] } }) F.kt_called_dict (F.kt_typeCall_dict_1 _) F.entry_dict_init (kt_code_dict_new _ ⟨rfl, rfl⟩) ?_
  rintro obj t ⟨rfl, rfl⟩
  have fresh : (s.heap.push { cls := .type "dict", data := .dict #[] }).DictOfH knd s.heap.objs.size [] := Heap.DictOfH.new s.heap
  have k0 : ∀ b o, s.heap.get? b = some o → (s.heap.push { cls := .type "dict", data := .dict #[] }).get? b = some o := fun b o e => Heap.get?_push_of_some _ e
  have hn := ho.nodup
  obtain ⟨oo, es, ep, q1, q2, q3, q4, q5, q6⟩ := id ho
  have src : (s.heap.push { cls := .type "dict", data := .dict #[] }).DictOfH knd o more := ⟨oo, es, ep, k0 _ _ q1, q2, q3, q4, hst, q6⟩
  have apart : s.heap.objs.size ≠ o := fun e => absurd (Heap.lt_size q1) (by rw [e]; exact Nat.lt_irrefl _)
  refine ⟨fresh.typeIs, F.args_dict_init_2 _ _, ?_⟩
  unfold Builtin.«dict.__init__»
  refine wpAny_bind ?_
  unfold Builtin.Dict.selfAndRest
  refine wpAny_bind (wpAny_notOrdered_dict fresh.typeIs ?_)
  refine wpAny_pure ?_
  refine updateFrom_dictH (A := A.in1) (s := { s with heap := s.heap.push { cls := .type "dict", data := .dict #[] } }) .none hu apart hoS fresh src (.inr ⟨fun x hx => ?_, hap⟩) (by simpa using hsz) fun h' hd' _ hs' => ?_
  · obtain ⟨ob, e1, e2⟩ := hty x hx
    exact ⟨ob, k0 _ _ e1, e2⟩
  · rw [storedAllH_nil_of_nodup more hn] at hd'
    exact ⟨rfl, h h' hd' hs'⟩
/-- the hash of a key -/
abbrev hashT (P : Program) (w : World) (k : List Key) : Int := (tupleKind (mixKind P w)).hash k
def rDictT (P : Program) (w : World) : List V → Hp → VK → Prop := fun vs H Q => ∃ (a : Addr) (kvs : List (List Key × V)), vs = [.ref a] ∧ H a = some (.dT kvs) ∧ (kvs.map fun kv => hashT P w kv.1).Nodup ∧ ∀ p, H p = none → Q (.ref p) (upd H p (.dT kvs))
theorem call_dictT (hu : X.A.units + 64 < cLine) : CallR X (.type "dict") (rDictT X.prog X.w) := by
  intro pins s σ H xs us Q I r h
  obtain ⟨a, kvs, rfl, hd, hn, q⟩ := h
  obtain ⟨u, rfl, ru⟩ := vals1 r
  obtain rfl : u = Value.ref a := ru
  obtain ⟨z, hs, ks, rel, dd⟩ := dt_of I.hok hd
  have hl : kvs.length = ks.length := Paired.length rel
  have isx : ∀ {h' : Heap}, (∀ b o, s.heap.get? b = some o → h'.get? b = some o) → ∀ x ∈ ks, (tupleKind (mixKind X.prog X.w)).is h' x.1 x.2.1 := fun {h'} k x hx => by
    obtain ⟨_, _, _, _, _, _, _, q5, _⟩ := id dd
    obtain ⟨ob, its, n, e1, e2, e3, e4⟩ := q5 x hx
    exact ⟨ob, its, n, k _ _ e1, e2, e3, e4⟩
  have tyx : ∀ x ∈ ks, s.TypeIs (.ref x.2.1) "tuple" := fun x hx => by
    obtain ⟨_, _, _, _, _, _, _, q5, _⟩ := id dd
    obtain ⟨ob, its, n, e1, e2, e3, e4⟩ := q5 x hx
    exact ⟨ob, e1, e2⟩
  have hashes : (ks.map fun x => (tupleKind (mixKind X.prog X.w)).hash x.1).Nodup := by
    have e : (ks.map fun x => (tupleKind (mixKind X.prog X.w)).hash x.1) = kvs.map fun kv => hashT X.prog X.w kv.1 := by
      have all : ∀ {l : List (List Key × V)} {m : List (List Key × Addr × Value)}, KT H l m → (m.map fun x => (tupleKind (mixKind X.prog X.w)).hash x.1) = l.map fun kv => hashT X.prog X.w kv.1 := by
        intro l m r
        induction r with
        | nil => rfl
        | cons h t ih => rw [List.map_cons, List.map_cons, ih, h.1]
      exact all rel
    rw [e]; exact hn
  refine kt_call_dictT (knd := tupleKind (mixKind X.prog X.w)) (by show X.A.units + 1 + 1 < cLine; omega) hs dd (isx fun b o e => Heap.get?_push_of_some _ e) tyx hashes (by rw [← hl]; exact z) fun h' hd' hs' => ?_
  have kp : ∀ b o, s.heap.get? b = some o → h'.get? b = some o := fun b o e => (hs'.2 b (Nat.ne_of_lt (Heap.lt_size e))).trans (Heap.get?_push_of_some _ e)
  have hm : (s.heap.objs.size == sysModules) = false := beq_eq_false_iff_ne.mpr (Nat.ne_of_gt I.big)
  have hf := I.hok.fresh (Nat.le_refl s.heap.objs.size)
  refine ⟨.ref s.heap.objs.size, upd H s.heap.objs.size (.dT kvs), I.laid (t' := s.toks) kp (Nat.le_refl _) (dt_new z hm (rel.keeps fun c ys ec => ?_) hd'), rfl, q _ hf⟩
  rw [upd_ne (ne_of_none ec hf)]
  exact ec

/-! ### dict(xs), xs a list of pairs whose keys are tuples; dict(t), t a tuple of pairs -/
def rDictPT (K : PySem.W.Frag) : List V → Hp → VK → Prop := fun vs H Q => ∃ (a : Addr) (ps : List (Addr × Addr)) (kvs : List (List Key × V)), vs = [.ref a] ∧ SqL K H a (ps.map fun p => V.ref p.1) ∧
  Paired (fun p kv => SqT K H p.1 [.ref p.2, kv.2] ∧ H p.2 = some (.tup (kv.1.map kV))) ps kvs ∧ ∀ p, H p = none → Q (.ref p) (upd H p (.dT (mergeT [] kvs)))
theorem call_dictPT (hc : X.calm = true) (hu : X.A.units + 64 < cLine) : CallR X (.type "dict") (rDictPT X.K) := by
  intro pins s σ H xs us Q I r h
  obtain ⟨a, ps, kvs, rfl, hq, hp, q⟩ := h
  obtain ⟨u, rfl, ru⟩ := vals1 r
  obtain rfl : u = Value.ref a := ru
  obtain ⟨its, rv, ⟨o, n, ho, hcl, hdn, hdat⟩, hz⟩ := I.list hq
  have ei : its = ps.map fun p => Value.ref p.1 := by
    have : Vals ((ps.map fun p => p.1).map V.ref) its := by rw [List.map_map]; exact rv
    rw [refs_at this, List.map_map]
    rfl
  subst ei
  rw [List.length_map] at hz
  -- the values of the pairs
  have vals : ∀ {ps : List (Addr × Addr)} {kvs : List (List Key × V)}, Paired (fun p kv => SqT X.K H p.1 [.ref p.2, kv.2] ∧ H p.2 = some (.tup (kv.1.map kV))) ps kvs →
      ∃ zs : List (List Key × Addr × Value), KT H kvs zs ∧ zs.length = ps.length ∧ ∀ (j : Nat) (z : List Key × Addr × Value), zs[j]? = some z → ∃ p : Addr × Addr, ps[j]? = some p ∧ z.2.1 = p.2 ∧ IsTup s.heap p.1 #[.ref p.2, z.2.2] := by
    intro ps kvs hp
    induction hp with
    | nil => exact ⟨[], .nil, rfl, fun j z e => by simp at e⟩
    | @cons p kv ps kvs h t ih =>
      obtain ⟨zs, k1, k2, k3⟩ := ih
      obtain ⟨its2, rv2, ht2, _⟩ := I.tuple h.1
      obtain ⟨u1, u2, e, r1, r2⟩ := vals2 rv2
      subst e
      obtain rfl : u1 = Value.ref p.2 := r1
      refine ⟨(kv.1, p.2, u2) :: zs, .cons ⟨rfl, h.2, r2⟩ k1, by rw [List.length_cons, List.length_cons, k2], fun j z e => ?_⟩
      cases j with
      | zero =>
        have e' : (kv.1, p.2, u2) = z := Option.some.inj e
        subst e'
        exact ⟨p, rfl, rfl, ht2⟩
      | succ j =>
        obtain ⟨p', e1, e2, e3⟩ := k3 j z (by simpa using e)
        exact ⟨p', by simpa using e1, e2, e3⟩
  obtain ⟨zs, k1, k2, k3⟩ := vals hp
  have hsz : zs.length = ps.length := k2
  have tupAt : ∀ (j : Nat) (z : List Key × Addr × Value), zs[j]? = some z → ∃ p : Addr × Addr, ps[j]? = some p ∧ z.2.1 = p.2 ∧ s.heap.IsTuple p.1 #[.ref z.2.1, z.2.2] := fun j z e => by
    obtain ⟨p, e1, e2, e3⟩ := k3 j z e
    exact ⟨p, e1, e2, by rw [e2]; exact e3⟩
  have items : PairItems s.heap (ps.map fun p => Value.ref p.1).toArray (fun j => (ps.getD j (0, 0)).1) (zs.map fun z => (Value.ref z.2.1, z.2.2)) := by
    refine ⟨by rw [List.size_toArray, List.length_map, List.length_map, hsz], fun j k v e => ?_⟩
    rw [List.getElem?_map] at e
    cases ez : zs[j]? with
    | none => rw [ez] at e; cases e
    | some z =>
      rw [ez] at e
      have e := Option.some.inj e
      obtain ⟨p, e1, e2, e3⟩ := tupAt j z ez
      injection e with ek ev
      subst ek ev
      have hg : ps.getD j (0, 0) = p := by rw [List.getD_eq_getElem?_getD, e1]; rfl
      refine ⟨?_, .inl ?_⟩
      · show (ps.map fun p => Value.ref p.1).toArray[j]? = some (.ref (ps.getD j (0, 0)).1)
        rw [hg, List.getElem?_toArray, List.getElem?_map, e1]; rfl
      · show s.heap.IsTuple (ps.getD j (0, 0)).1 _
        rw [hg]; exact e3
  have keyIs : ∀ z ∈ zs, (tupleKind (mixKind X.prog X.w)).is s.heap z.1 z.2.1 := fun z hz => by
    have all : ∀ {l : List (List Key × V)} {m : List (List Key × Addr × Value)}, KT H l m → ∀ x ∈ m, (tupleKind (mixKind X.prog X.w)).is s.heap x.1 x.2.1 := by
      intro l m r
      induction r with
      | nil => intro x hx; exact nomatch hx
      | cons h t ih =>
        intro x hx
        rcases List.mem_cons.mp hx with e | hx
        · subst e
          exact key_of I.hok (by rw [← h.1]; exact h.2.1)
        · exact ih x hx
    exact all k1 z hz
  refine call_dict_pairsH (knd := tupleKind (mixKind X.prog X.w)) (ps := zs) (PairArg.list a (ps.map fun p => Value.ref p.1).toArray (fun j => (ps.getD j (0, 0)).1) (zs.map fun z => (Value.ref z.2.1, z.2.2))) (I.ok.hd hc) (by show X.A.units + 1 + 1 < cLine; omega)
    ⟨⟨o, n, ho, hcl, hdn, hdat⟩, items⟩ ⟨(List.length_map _).symm, fun i key v e => ?_⟩ (fun h' hk z hz => ?_) (by rw [List.length_map, hsz]; exact hz) fun h' tk hd' hk => ?_
  · have e : (zs.map fun z => (Value.ref z.2.1, z.2.2))[i]? = some (key, v) := e
    rw [List.getElem?_map] at e
    cases ez : zs[i]? with
    | none => rw [ez] at e; cases e
    | some z =>
      rw [ez] at e
      have e := Option.some.inj e
      injection e with ek ev
      exact ⟨z.1, z.2.1, by rw [← ev], ek.symm⟩
  · obtain ⟨ob, its, n2, e1, e2, e3, e4⟩ := keyIs z hz
    exact ⟨ob, its, n2, hk _ _ (Nat.ne_of_lt (Heap.lt_size e1)) (by simp) e1, e2, e3, e4⟩
  · have hm : (s.heap.objs.size == sysModules) = false := beq_eq_false_iff_ne.mpr (Nat.ne_of_gt I.big)
    have hf := I.hok.fresh (Nat.le_refl s.heap.objs.size)
    have hl : (mergeT [] kvs).length ≤ sizeLine := by
      have := length_mergeT kvs []
      have e : kvs.length = zs.length := Paired.length k1
      rw [List.length_nil] at this
      omega
    refine ⟨.ref s.heap.objs.size, upd H s.heap.objs.size (.dT (mergeT [] kvs)), I.laid (t' := tk) (fun b o e => hk b o (by simp) e) (Nat.le_refl _) (dt_new hl hm ((ktMerge k1 .nil).keeps fun c ys ec => ?_) hd'), rfl, q _ hf⟩
    rw [upd_ne (ne_of_none ec hf)]
    exact ec

/-- a plain tuple whose object is known (it has no dict of its own) -/
def TupP (H : Hp) (a : Addr) (xs : List V) : Prop := ∃ o : Obj, o.dict = none ∧ H a = some (.frz o (.tup xs))
theorem TupP.sqT {K : PySem.W.Frag} {H : Hp} {a : Addr} {xs : List V} (h : TupP H a xs) : SqT K H a xs := let ⟨o, _, e⟩ := h; .inl (.inr ⟨o, e⟩)
/-- tuple(xs), the new tuple's object kept in mind -/
def rTupleF (K : PySem.W.Frag) : List V → Hp → VK → Prop := fun vs H Q => ∃ (p : Addr) (ys : List V), vs = [.ref p] ∧ SqL K H p ys ∧ ∀ (l : Addr) (o : Obj), o.dict = none → H l = none → Q (.ref l) (upd H l (.frz o (.tup ys)))
theorem call_tupleF : CallR X (.type "tuple") (rTupleF X.K) := by
  intro pins s σ H xs us Q I r h
  obtain ⟨p, ys, rfl, hq, q⟩ := h
  obtain ⟨u, rfl, rx⟩ := vals1 r
  obtain rfl : u = Value.ref p := rx
  obtain ⟨its, r', pl, hz⟩ := I.list hq
  have hlen := r'.length
  refine call_tuple_list pl.isList (fun h' kp => ?_) (by simp only [List.size_toArray] <;> omega)
  have I1 : Inv X pins σ H { s with heap := h' } := I.kept (t' := s.toks) kp
  have I2 : Inv X pins σ (upd H h'.objs.size (.frz { cls := .type "tuple", data := .seq its.toArray } (.tup ys))) { s with heap := h'.push { cls := .type "tuple", data := .seq its.toArray } } :=
    I1.laid (t' := s.toks) (fun b o e => Heap.get?_push_of_some _ e) (Nat.le_refl _) ⟨Heap.get?_push_size _ rfl, hz, its, r', IsTup.new _ _⟩
  exact ⟨.ref h'.objs.size, _, I2, rfl, q _ _ rfl (I1.hok.fresh (Nat.le_refl _))⟩
def rDictTP (K : PySem.W.Frag) : List V → Hp → VK → Prop := fun vs H Q => ∃ (a : Addr) (ps : List Addr) (kvs : List (Key × V)), vs = [.ref a] ∧ TupP H a (ps.map V.ref) ∧ Paired (fun p kv => SqT K H p [kV kv.1, kv.2]) ps kvs ∧
  ∀ p, H p = none → Q (.ref p) (upd H p (.dK (mergeK [] kvs)))
theorem call_dictTP (hc : X.calm = true) : CallR X (.type "dict") (rDictTP X.K) := by
  intro pins s σ H xs us Q I r h
  obtain ⟨a, ps, kvs, rfl, ⟨ob, hdn, ha⟩, hp, q⟩ := h
  obtain ⟨u, rfl, ru⟩ := vals1 r
  obtain rfl : u = Value.ref a := ru
  obtain ⟨ho, hz, its, rv, ob2, ho2, hcl, n, hdat⟩ := (show ObjOk X.prog X.w H s.heap a (.frz ob (.tup (ps.map V.ref))) from I.hok a _ ha)
  rw [ho] at ho2
  have ho2 := Option.some.inj ho2
  subst ho2
  have ei := refs_at rv
  subst ei
  rw [List.length_map] at hz
  obtain ⟨prs, rel, hl, hpr⟩ := pairs_of I hp
  -- the keys as they lie
  classical
  have keyV : ∀ (j : Nat) (q : Key × Value), prs[j]? = some q → ∃ b u, ps[j]? = some b ∧ IsTup s.heap b #[u, q.2] ∧ keyIs q.1 u = true := hpr
  let uOf : Nat → Value := fun j => if e : ∃ q : Key × Value, prs[j]? = some q then (hpr j e.choose e.choose_spec).choose_spec.choose else .none
  have uSpec : ∀ (j : Nat) (q : Key × Value), prs[j]? = some q → ∃ b, ps[j]? = some b ∧ IsTup s.heap b #[uOf j, q.2] ∧ keyIs q.1 (uOf j) = true := fun j q e => by
    have ex : ∃ q : Key × Value, prs[j]? = some q := ⟨q, e⟩
    have eq : ex.choose = q := Option.some.inj (ex.choose_spec.symm.trans e)
    have hu : uOf j = (hpr j ex.choose ex.choose_spec).choose_spec.choose := dif_pos ex
    obtain ⟨h1, h2, h3⟩ := (hpr j ex.choose ex.choose_spec).choose_spec.choose_spec
    rw [hu]
    exact ⟨_, h1, by rw [← eq]; exact h2, by rw [← eq]; exact h3⟩
  let vv : List (Value × Value) := prs.zipIdx.map fun x => (uOf x.2, x.1.2)
  have vvlen : vv.length = ps.length := by
    show (prs.zipIdx.map _).length = _
    rw [List.length_map, List.length_zipIdx, hl]
  have vvat : ∀ j : Nat, vv[j]? = (prs[j]?).map fun x => (uOf j, x.2) := fun j => by
    show (prs.zipIdx.map _)[j]? = _
    rw [List.getElem?_map, List.getElem?_zipIdx, Option.map_map]
    cases prs[j]? <;> simp
  have items : PairItems s.heap (ps.map Value.ref).toArray (fun j => ps.getD j 0) vv := by
    refine ⟨by rw [List.size_toArray, List.length_map, vvlen], fun j k v e => ?_⟩
    rw [vvat] at e
    cases ez : prs[j]? with
    | none => rw [ez] at e; cases e
    | some z =>
      rw [ez] at e
      have e := Option.some.inj e
      injection e with ek ev
      obtain ⟨b, e1, e2, e3⟩ := uSpec j z ez
      have hg : ps.getD j 0 = b := by rw [List.getD_eq_getElem?_getD, e1]; rfl
      refine ⟨?_, .inl ?_⟩
      · show (ps.map Value.ref).toArray[j]? = some (.ref (ps.getD j 0))
        rw [hg, List.getElem?_toArray, List.getElem?_map, e1]; rfl
      · show s.heap.IsTuple (ps.getD j 0) _
        rw [hg, ← ek, ← ev]
        exact e2
  refine PySem.call_dict_pairs (knd := mixKind X.prog X.w) (kvs := prs) (PairArg.tuple a (ps.map Value.ref).toArray (fun j => ps.getD j 0) vv) (I.ok.hd hc) ⟨⟨ob, n, ho, hcl, hdn, hdat⟩, items⟩ ⟨by rw [hl, vvlen], fun i key v e => ?_⟩ (by rw [vvlen]; exact hz) fun h' tk hd' hk => ?_
  · have e : vv[i]? = some (key, v) := e
    rw [vvat] at e
    cases ez : prs[i]? with
    | none => rw [ez] at e; cases e
    | some z =>
      rw [ez] at e
      have e := Option.some.inj e
      injection e with ek ev
      obtain ⟨b, e1, e2, e3⟩ := uSpec i z ez
      exact ⟨z.1, by rw [← ev], by rw [← ek]; exact e3⟩
  · have hm : (s.heap.objs.size == sysModules) = false := beq_eq_false_iff_ne.mpr (Nat.ne_of_gt I.big)
    have hlen : (mergeK [] kvs).length ≤ sizeLine := by
      refine Nat.le_trans (length_mergeK kvs []) ?_
      rw [List.length_nil, Nat.zero_add, rel.length, hl]
      exact hz
    exact ⟨.ref s.heap.objs.size, upd H s.heap.objs.size (.dK (mergeK [] kvs)), I.laid (t' := tk) (fun b o e => hk b o (by simp) e) (Nat.le_refl _) (show ObjOk X.prog X.w _ _ _ (.dK (mergeK [] kvs)) from ⟨hlen, hm, merged [] prs, KV.merge rel .nil, hd'⟩), rfl, q _ (I.hok.fresh (Nat.le_refl _))⟩

/-! ### {k: v} whose key is a tuple -/
def tDispT1 (tk tv : TE) : TE := fun σ H Q => ∀ p, H p = none → tk σ (upd H p (.dT [])) fun x H1 => tv σ H1 fun y H2 => H2 p = some (.dT []) ∧ ∃ (b : Addr) (k : List Key), x = .ref b ∧ H2 b = some (.tup (k.map kV)) ∧ Q (.ref p) (upd H2 p (.dT [(k, y)]))
theorem pe_dispT1 {pos : Pos} {k v : Expr} {tk tv : TE} (hu : X.A.units + 64 < cLine) (hk : PE X k tk) (hv : PE X v tv) : PE X (.Dict [some k] [v] pos) (tDispT1 tk tv) := by
  refine ⟨fun pins s σ H Q I q => ?_⟩
  have hn := I.hok.fresh (Nat.le_refl s.heap.objs.size)
  have hm : (s.heap.objs.size == sysModules) = false := beq_eq_false_iff_ne.mpr (Nat.ne_of_gt I.big)
  have I1 := I.laid (a := s.heap.objs.size) (o := .dT []) (h' := s.heap.push { cls := .type "dict", data := .dict #[] }) (t' := s.toks) (fun _ _ q => Heap.get?_push_of_some _ q) (Nat.le_refl _) (dt_new (by show 0 ≤ sizeLine; decide) hm .nil (Heap.DictOfH.new s.heap))
  have hp : PPs X pos [some k] [v] [(tk, tv)] := pps_cons hk hv pps_nil
  have q' : tPairs [(tk, tv)] σ (upd H s.heap.objs.size (.dT [])) fun ps H2 => ∃ x y, ps = [(x, y)] ∧ H2 s.heap.objs.size = some (.dT []) ∧ ∃ (b : Addr) (k : List Key), x = .ref b ∧ H2 b = some (.tup (k.map kV)) ∧ Q (.ref s.heap.objs.size) (upd H2 s.heap.objs.size (.dT [(k, y)])) := by
    have q0 := q _ hn
    have hkm : ∀ (t : TE) (H0 : Hp) (P1 P2 : VK), (∀ x H1, P1 x H1 → P2 x H1) → True := fun _ _ _ _ _ => True.intro
    show tk σ _ fun x H1 => tv σ H1 fun y H2 => _
    refine cast ?_ q0
    congr
    funext x H1
    congr
    funext y H2
    refine propext ⟨fun h => ⟨x, y, rfl, h⟩, fun ⟨x', y', e, h⟩ => ?_⟩
    have e := List.cons.inj e
    have e := Prod.mk.inj e.1
    rw [e.1, e.2]
    exact h
  rw [arm_eval_Dict, zip_pairTrees [some k] [v] X.env pos rfl rfl, dictDisplay_pairs (pairTrees [some k] [v] X.env pos) (by simp [pairTrees]) (by simp [pairTrees])]
  refine wpAny_bind (wpAny_standAt (wpAny_bind (wpAny_subDictH (knd := tupleKind (mixKind X.prog X.w)) (Q := fun d s' => wpAny (model X.prog X.w) X.A (pure (Value.ref d)) (EP X pins σ Q) X.xe s') (by show X.A.units < cLine; omega) (by simp [pairTrees])
    (thn (hp.run pins _ σ _ _ I1 q') fun ws s2 ⟨ps, H2, I2, rel, x, y, e, hd, b, kk, ex, hb, fin⟩ => ?_))))
  subst e ex
  cases rel with
  | @cons xy wv _ _ hxy t =>
    cases t
    obtain ⟨wk, wx⟩ := wv
    obtain ⟨r1, r2⟩ := hxy
    obtain rfl : wk = Value.ref b := r1
    obtain ⟨z, hs, xs0, r0, dd⟩ := dt_of I2.hok hd
    cases r0
    refine ⟨[(kk, b, wx)], ⟨rfl, rfl, key_of I2.hok hb, True.intro⟩, dd, fun h' tk' hd' hs' => wpAny_pure ?_⟩
    have kt : KT (upd H2 s.heap.objs.size (.dT [(kk, y)])) [(kk, y)] [(kk, b, wx)] := .cons ⟨rfl, by rw [upd_ne (ne_of hb hd (fun z => nomatch z))]; exact hb, r2⟩ .nil
    exact ⟨.ref s.heap.objs.size, _, d_write (t' := tk') I2 (by rw [hd]; exact True.intro) hs' (let ⟨q, _, _, hq, _⟩ := hd'; ⟨q, hq⟩) (dt_new (by show 1 ≤ sizeLine; decide) hs kt hd'), rfl, fin⟩
end
end IdR
end
section
set_option maxRecDepth 100000
set_option maxHeartbeats 4000000
/-! Rules that the layer lacks, 4: {k: v for a in xs for b in ys}; t >= u; enumerate(t) of a tuple. -/
namespace IdR
open PySem PySem.Spec PyProof.Rows L2

/-- the comprehension of two clauses without tests -/
abbrev dc2 (kx vx t0 i0 t1 i1 : Expr) (scope : Scope) (pos : Pos) : Expr := .DictComp kx vx [⟨t0, i0, [], 0⟩, ⟨t1, i1, [], 0⟩] scope pos
section
variable {kx vx t0 i0 t1 i1 : Expr} {scope : Scope} {pos : Pos}
theorem turn_o (it acc : Value) (env : Env) : compTurn (dc2 kx vx t0 i0 t1 i1 scope pos) 0 it acc env = (do
      standAt i0.pos
      match ← pyNext it with
      | none => pure (.done .next)
      | some v =>
        letOwnedTupleGo t0 it v
        assign t0 env v
        let src ← eval i1 env
        standAt i1.pos
        let src ← foldedSetIterable i1 env src
        let _ ← runOwn (.compStart (dc2 kx vx t0 i0 t1 i1 scope pos) 1 (← holding [src] (pyIter src)) acc env) env
        again (.compLoop (dc2 kx vx t0 i0 t1 i1 scope pos) 0 it acc env)) := by rfl
theorem turn_i (it : Value) (D : Addr) (env : Env) : compTurn (dc2 kx vx t0 i0 t1 i1 scope pos) 1 it (.ref D) env = (do
      standAt i1.pos
      match ← pyNext it with
      | none => pure (.done .next)
      | some v =>
        letOwnedTupleGo t1 it v
        assign t1 env v
        (do
          let key ← eval kx env
          let val ← holding [key] (eval vx env)
          standAt { kx.pos with endLine := vx.pos.endLine, endCol := vx.pos.endCol }
          holding [key, val] (dictSet D key val))
        again (.compLoop (dc2 kx vx t0 i0 t1 i1 scope pos) 1 it (.ref D) env)) := by rfl

variable {prog : Program} {w : World} {A : Around} {R : Result → Shared → Prop} {s : Shared} {it acc : Value} {env : Env} {D : Addr}
/-- nothing is raised -/
abbrev nof : Value → Shared → Prop := fun _ _ => False
/-- the outer loop -/
theorem loop_o (hs : ∀ x, foldedSetIterable i1 env x = pure x) (J : Nat → Shared → Prop)
    (one : ∀ n s, J n s → wpAny (model prog w) A (pyNext it) (fun r sa => match r with
      | none => R (.ok .next) sa
      | some v => wpAny (model prog w) A (letOwnedTupleGo t0 it v) (fun _ sb => wpAny (model prog w) A (assign t0 env v) (fun _ sc => wpAny (model prog w) A (eval i1 env) (fun x sd => wpAny (model prog w) A (pyIter x) (fun z se =>
          codeAny (model prog w) A (.compStart (dc2 kx vx t0 i0 t1 i1 scope pos) 1 z acc env) (fun r s' => match r with
            | .ok _ => ∃ m, m < n ∧ J m s'
            | .error _ => False) se) nof sd) nof sc) nof sb) nof sa) nof s) (n : Nat) (h : J n s) :
    codeAny (model prog w) A (.compLoop (dc2 kx vx t0 i0 t1 i1 scope pos) 0 it acc env) R s := by
  refine codeAny_loop rfl J (fun n s hJ => ?_) n h
  show wpAny _ A ((compTurn (dc2 kx vx t0 i0 t1 i1 scope pos) 0 it acc env).onRaise (fun x => do noteFrame x env; theTreesLotGoes x)) _ _ s
  refine wpAny_noted ?_
  rw [turn_o]
  have noE : ∀ {e : Value} {s' : Shared} {G : Prop}, nof e s' → G := fun z => z.elim
  refine wpAny_bind (wpAny_standAt (wpAny_bind (wpAny_mono (one n s hJ) (fun r sa ha => ?_) fun _ _ z => noE z)))
  cases r with
  | none => exact wpAny_pure ha
  | some v =>
    refine wpAny_bind (wpAny_mono ha (fun _ sb hb => ?_) fun _ _ z => noE z)
    refine wpAny_bind (wpAny_mono hb (fun _ sc hc => ?_) fun _ _ z => noE z)
    refine wpAny_bind (wpAny_mono hc (fun x sd hd => ?_) fun _ _ z => noE z)
    refine wpAny_bind (wpAny_standAt (wpAny_bind (wpAny_of_eq (hs x) (wpAny_bind (wpAny_holding (wpAny_mono hd (fun z se he => ?_) fun _ _ z => noE z))))))
    refine wpAny_bind (wpAny_runOwn ?_)
    rw [Around.mark_none]
    refine codeAny_mono he fun r s' hr => ?_
    cases r with
    | ok f => first
        | exact wpAny_pure ⟨rfl, hr⟩
        | exact wpAny_bind (wpAny_pure (wpAny_pure ⟨rfl, hr⟩))
    | error e => exact hr.elim
/-- the inner loop -/
theorem loop_i (J : Nat → Shared → Prop)
    (one : ∀ n s, J n s → wpAny (model prog w) A (pyNext it) (fun r sa => match r with
      | none => R (.ok .next) sa
      | some v => wpAny (model prog w) A (letOwnedTupleGo t1 it v) (fun _ sb => wpAny (model prog w) A (assign t1 env v) (fun _ sc => wpAny (model prog w) A (eval kx env) (fun key sd => wpAny (model prog w) A (eval vx env) (fun val se =>
          wpAny (model prog w) A (dictSet D key val) (fun _ sf => ∃ m, m < n ∧ J m sf) nof se) nof sd) nof sc) nof sb) nof sa) nof s) (n : Nat) (h : J n s) :
    codeAny (model prog w) A (.compLoop (dc2 kx vx t0 i0 t1 i1 scope pos) 1 it (.ref D) env) R s := by
  refine codeAny_loop rfl J (fun n s hJ => ?_) n h
  show wpAny _ A ((compTurn (dc2 kx vx t0 i0 t1 i1 scope pos) 1 it (.ref D) env).onRaise (fun x => do noteFrame x env; theTreesLotGoes x)) _ _ s
  refine wpAny_noted ?_
  rw [turn_i]
  have noE : ∀ {e : Value} {s' : Shared} {G : Prop}, nof e s' → G := fun z => z.elim
  refine wpAny_bind (wpAny_standAt (wpAny_bind (wpAny_mono (one n s hJ) (fun r sa ha => ?_) fun _ _ z => noE z)))
  cases r with
  | none => exact wpAny_pure ha
  | some v =>
    refine wpAny_bind (wpAny_mono ha (fun _ sb hb => ?_) fun _ _ z => noE z)
    refine wpAny_bind (wpAny_mono hb (fun _ sc hc => ?_) fun _ _ z => noE z)
    refine wpAny_bind (wpAny_bind (wpAny_mono hc (fun key sd hd => ?_) fun _ _ z => noE z))
    refine wpAny_bind (wpAny_holding (wpAny_mono hd (fun val se he => ?_) fun _ _ z => noE z))
    exact wpAny_bind (wpAny_standAt (wpAny_holding (wpAny_mono he (fun _ sf hf => wpAny_pure ⟨rfl, hf⟩) fun _ _ z => noE z)))
/-- the inner loop begins -/
theorem start_i (h0 : codeAny (model prog w) A (.compLoop (dc2 kx vx t0 i0 t1 i1 scope pos) 1 it acc env) R s)
    (h : wpAny (model prog w) A (pyIter it) (fun z s' => codeAny (model prog w) A (.compLoop (dc2 kx vx t0 i0 t1 i1 scope pos) 1 z acc env) R s') nof s) :
    codeAny (model prog w) A (.compStart (dc2 kx vx t0 i0 t1 i1 scope pos) 1 it acc env) R s := by
  refine codeAny_of_tree ?_
  show wpAny _ _ ((compStart (dc2 kx vx t0 i0 t1 i1 scope pos) 1 it acc env).onRaise (fun x => do noteFrame x env; standAt theWindowsPlace)) _ _ s
  refine wpAny_notedAt ?_
  unfold compStart
  show wpAny _ _ (ask >>= _) _ _ s
  have hE : ∀ (e : Value) (s' : Shared), nof e s' → False := fun _ _ z => z
  refine wpAny_bind (wpAny_askSetting (wpAny_ite ?_))
  split
  · first
      | exact wpAny_bind (wpAny_pure (wpAny_pure ⟨rfl, h0⟩))
      | exact wpAny_pure ⟨rfl, h0⟩
  · first
      | exact wpAny_bind (wpAny_rule (wpAny_bind (wpAny_standAt (wpAny_bind (wpAny_mono h (fun z s' q => wpAny_pure ⟨rfl, q⟩) fun e s' q => (hE e s' q).elim)))))
      | (refine wpAny_bind (wpAny_rule ?_); show wpAny _ _ (standAt i1.pos >>= _) _ _ s; exact wpAny_bind (wpAny_standAt (wpAny_bind (wpAny_mono h (fun z s' q => wpAny_pure ⟨rfl, q⟩) fun e s' q => (hE e s' q).elim))))
end

section
variable {X : Cx}
/-- its reading: W the outer loop's word (turn, measure, heap), W1 the inner one's -/
def tDc2 (wi : TI) (g : TG) (wi1 : TI) (g1 : TG) (tk tv : TE) (vs vs1 : List Nat) : TE := fun σ H Q => wi σ H fun J H1 => ∀ D, H1 D = none → ∃ W : Nat → Nat → Hp → Prop, (∃ m, W 0 m (upd H1 D (.dK []))) ∧ ∀ i m H, W i m H →
  (J.stop i H ∧ Q (.ref D) H) ∨ (J.go i H ∧ ∃ Nx : Hp → Prop, (∀ H', Nx H' → ∃ m', m' < m ∧ W (i + 1) m' H') ∧ ∀ x H', J.yld i H x H' → g x (wipe σ vs) H' fun σ2 H2 => wipe σ2 vs = wipe σ vs ∧
    wi1 σ2 H2 fun J1 H4 => ∃ W1 : Nat → Nat → Hp → Prop, (∃ m, W1 0 m H4) ∧ ∀ j k H, W1 j k H →
      (J1.stop j H ∧ Nx H) ∨ (J1.go j H ∧ ∃ Nx1 : Hp → Prop, (∀ H', Nx1 H' → ∃ k', k' < k ∧ W1 (j + 1) k' H') ∧ ∀ x H', J1.yld j H x H' → g1 x (wipe σ2 vs1) H' fun σ3 H5 => wipe σ3 vs1 = wipe σ2 vs1 ∧
        tk σ3 H5 fun y H6 => tv σ3 H6 fun z H7 => ∃ kvs key, y = kV key ∧ H7 D = some (.dK kvs) ∧ kvs.length < sizeLine ∧ Nx1 (upd H7 D (.dK (putK kvs key z)))))
theorem pe_dc2 {kx vx tg iter tg1 iter1 : Expr} {scope : Scope} {own : List (Str × Nat)} {vs1 : List Nat} {pos : Pos} {wi wi1 : TI} {g g1 : TG} {tk tv : TE} (hc : X.calm = true) (hN : X.N.Nodup) (hi : PI X tg iter wi) (ok : BlkOk X.N X.env.scope scope own) (hv : ∀ i ∈ vs1, i ∈ own.map (·.2))
    (hg : ∀ (s : Shared) (H : Hp) (C : Addr) (cl : List (Str × Addr)) (fp : List Addr), PG (X.blk s H scope (compEnvC scope cl C X.env) fp) tg g)
    (hi1 : ∀ (s : Shared) (H : Hp) (C : Addr) (cl : List (Str × Addr)) (fp : List Addr), PI (X.blk s H scope (compEnvC scope cl C X.env) fp) tg1 iter1 wi1)
    (hg1 : ∀ (s : Shared) (H : Hp) (C : Addr) (cl : List (Str × Addr)) (fp : List Addr), PG (X.blk s H scope (compEnvC scope cl C X.env) fp) tg1 g1)
    (hk : ∀ (s : Shared) (H : Hp) (C : Addr) (cl : List (Str × Addr)) (fp : List Addr), PE (X.blk s H scope (compEnvC scope cl C X.env) fp) kx tk)
    (he : ∀ (s : Shared) (H : Hp) (C : Addr) (cl : List (Str × Addr)) (fp : List Addr), PE (X.blk s H scope (compEnvC scope cl C X.env) fp) vx tv)
    (hs : ∀ x, foldedSetIterable iter X.env x = pure x := by intro _; rfl) (hs1 : ∀ env x, foldedSetIterable iter1 env x = pure x := by intro _ _; rfl) :
    PE X (dc2 kx vx tg iter tg1 iter1 scope pos) (tDc2 wi g wi1 g1 tk tv (own.map (·.2)) vs1) := by
  refine ⟨fun pins s σ H Q I h => ?_⟩
  rw [arm_eval_DictComp]
  have clo : ∀ y ∈ scope.names, y.2 = .free → ∃ c, X.env.cells.lookup y.1 = some c := fun y hy e => (ok.free y hy e).elim (fun k => I.ok.has _ (.inl k)) fun k => I.ok.has _ (.inr k)
  refine wpAny_comprehension_free (use := none) rfl hs (closure_ok clo) ok.kind (fun y hy e => by rw [ok.uniq y hy, e]) (thn (hi.run pins s σ H _ I h) fun xv sa hx => thn hx fun itv sb hb => ?_)
  obtain ⟨it, fp, tn, J, Hb, rfl, Ib, T, stb, fpb, q⟩ := hb
  refine wpAny_newObj_type (newEnv_comp ?_)
  generalize hD : sb.heap.objs.size = D
  have hDn : Hb D = none := Ib.hok.fresh (Nat.le_of_eq hD)
  obtain ⟨W, ⟨m0, w0⟩, turn⟩ := q D hDn
  generalize hsc : ({ sb with heap := sb.heap.push { cls := .type "dict", data := .dict #[] } } : Shared) = sc
  have Ic : Inv X pins σ (upd Hb D (.dK [])) sc := by
    rw [← hsc]
    refine Ib.laid (t' := sb.toks) (fun b o e => Heap.get?_push_of_some _ e) (Nat.le_of_eq hD) ?_
    rw [← hD]
    exact dk_empty sb.heap Ib.big
  have heapc : sc.heap = sb.heap.push { cls := .type "dict", data := .dict #[] } := by rw [← hsc]
  have below : ∀ b ∈ fp, b < sb.heap.objs.size := fun b hb => let ⟨o, e, _⟩ := T.obj _ _ stb b hb; Heap.lt_size e
  have fpc : ∀ b ∈ fp, FpOk X pins (upd Hb D (.dK [])) b ∧ b < sc.heap.objs.size := fun b hb => by
    have hlt := below b hb
    refine ⟨⟨?_, (fpb b hb).2⟩, by rw [heapc, Heap.size_push]; exact Nat.lt_succ_of_lt hlt⟩
    rw [upd_ne (by rw [← hD]; exact Nat.ne_of_lt hlt)]
    exact (fpb b hb).1
  have stc : tn 0 sc.heap := T.keep _ _ _ stb fun b _ o e => by rw [heapc]; exact Heap.get?_push_of_some _ e
  have Id := block_start Ic ok hN fpc
  have pg := hg sc (upd Hb D (.dK [])) sc.heap.objs.size (cellsFrom (sc.heap.objs.size + 1) scope.names (cloFrom X.env.cells scope.names [])) fp
  have pk := hk sc (upd Hb D (.dK [])) sc.heap.objs.size (cellsFrom (sc.heap.objs.size + 1) scope.names (cloFrom X.env.cells scope.names [])) fp
  have pe := he sc (upd Hb D (.dK [])) sc.heap.objs.size (cellsFrom (sc.heap.objs.size + 1) scope.names (cloFrom X.env.cells scope.names [])) fp
  have pi1 := hi1 sc (upd Hb D (.dK [])) sc.heap.objs.size (cellsFrom (sc.heap.objs.size + 1) scope.names (cloFrom X.env.cells scope.names [])) fp
  have pg1 := hg1 sc (upd Hb D (.dK [])) sc.heap.objs.size (cellsFrom (sc.heap.objs.size + 1) scope.names (cloFrom X.env.cells scope.names [])) fp
  show codeAny _ _ (.compStart (dc2 kx vx tg iter tg1 iter1 scope pos) 0 (.ref it) (.ref D) (compEnvC scope (cellsFrom (sc.heap.objs.size + 1) scope.names (cloFrom X.env.cells scope.names [])) sc.heap.objs.size X.env))
    (compPost (model X.prog X.w) X.A X.xe none (EP X pins σ Q) (.ref D) sc.heap.objs.size) { sc with heap := pushCells (sc.heap.push { cls := .type "dict", data := .dict #[] }) scope.names }
  have free0 : ∀ b ∈ fp, (upd Hb D (.dK [])) b = none := fun b hb => (fpc b hb).1.1
  generalize hce : compEnvC scope (cellsFrom (sc.heap.objs.size + 1) scope.names (cloFrom X.env.cells scope.names [])) sc.heap.objs.size X.env = ce at Id pg pk pe pi1 pg1 ⊢
  have cL : ce.locals = sc.heap.objs.size := by subst hce; rfl
  generalize hHc : upd Hb D (.dK []) = Hc at Ic Id pg pk pe pi1 pg1 w0 free0 fpc
  generalize hsd : ({ sc with heap := pushCells (sc.heap.push { cls := .type "dict", data := .dict #[] }) scope.names } : Shared) = sd at Id ⊢
  have std : tn 0 sd.heap := T.keep _ _ _ stc fun b _ o e => by rw [← hsd]; exact pushCells_keeps _ _ _ _ (Heap.get?_push_of_some _ e)
  have stat : ∀ {σ' : L2.St} {H' : Hp} {s' : Shared}, Inv (X.blk sc Hc scope ce fp) [] σ' H' s' → (∀ b ∈ fp, H' b = none) → ∀ b ∈ fp, FpOk (X.blk sc Hc scope ce fp) [] H' b := fun {σ' H' s'} I' hn b hb =>
    ⟨hn b hb, (I'.ok.exf b hb).1, I'.ok.exfs b hb, .inl hb, fun x c e => (I'.ok.exf b hb).2 x c e, fun p hp => absurd (show p ∈ ([] : List (Addr × Obj)) ++ [] from hp) (by simp)⟩
  -- what an outer turn begins with
  let Wd : Nat → Shared → Prop := fun n s' => ∃ i H', Inv (X.blk sc Hc scope ce fp) [] (wipe σ (own.map (·.2))) H' s' ∧ tn i s'.heap ∧ (∀ b ∈ fp, H' b = none) ∧ W i n H'
  have outer : codeAny (model X.prog X.w) X.A (.compLoop (dc2 kx vx tg iter tg1 iter1 scope pos) 0 (.ref it) (.ref D) ce) (compPost (model X.prog X.w) X.A X.xe none (EP X pins σ Q) (.ref D) sc.heap.objs.size) sd := by
    refine loop_o (hs1 ce) Wd ?_ m0 ⟨0, Hc, Id, std, free0, w0⟩
    rintro n s5 ⟨i, H5, I5, st5, n5, w5⟩
    rcases turn i n H5 w5 with ⟨stop, fin⟩ | ⟨go, Nx, hNx, step⟩
    · refine thnF (T.done (X.blk sc Hc scope ce fp) rfl rfl rfl hc i [] s5 _ H5 (fun _ _ => False) I5 (stat I5 n5) st5 stop) fun r s6 ⟨hr, I6⟩ => ?_
      subst hr
      have I7 : Inv X pins σ H5 s6 := Ic.call' (ch := fp) I6.os I6.base I6.hok I6.bare fun b hb => ⟨(fpc b hb).1.2.2.2.1, (fpc b hb).1.2.1, (fpc b hb).1.2.2.2.2.1, (fpc b hb).1.2.2.2.2.2⟩
      have nC : H5 sc.heap.objs.size = none := by
        have z : H5 ce.locals = none := I6.free
        rw [cL] at z
        exact z
      obtain ⟨m, hn, _⟩ := I6.loc
      have hn : s6.heap.Ns ce.locals m := hn
      rw [cL] at hn
      obtain ⟨f0, f1, f2, f3, f4, f5⟩ := Ic.fpOk (Nat.le_refl _) nC
      exact ⟨m, hn, fun h'' sb' => ⟨.ref D, H5, I7.turned (t' := s6.toks) (fun b o hb e => (sb'.2 b hb).trans e) f0 f1 f3 f4 f5, rfl, fin⟩⟩
    · refine thnF (T.item (X.blk sc Hc scope ce fp) rfl rfl rfl hc i [] s5 _ H5 (fun _ _ => False) I5 (stat I5 n5) st5 go) fun r s6 ⟨u, hr, h6⟩ => ?_
      subst hr
      refine thnF h6 fun _ s7 ⟨x, H7, I7, r7, y7, st7, n7⟩ => ?_
      have I7' := I7.pinned (stat I7 n7) (T.obj _ _ st7)
      refine thnF (pg.run _ s7 _ H7 x u _ I7' r7 (step x H7 y7)) fun _ s8 ⟨σ8, H8, I8, hw8, q8⟩ => ?_
      have back : ∀ {σ9 : L2.St} {s' : Shared} {H' : Hp}, Inv (X.blk sc Hc scope ce fp) ([] ++ pinsAt fp s7.heap) σ9 H' s' → (wipe σ (own.map (·.2))).length = σ9.length → (∀ (j : Nat) v, (wipe σ (own.map (·.2)))[j]? = some (some v) → σ9[j]? = some (some v)) → Nx H' → ∃ m, m < n ∧ Wd m s' := by
        intro σ9 s' H' I' hl hkp nx
        obtain ⟨m', hm, w'⟩ := hNx H' nx
        have pinned : ∀ b ∈ fp, ∀ o, s7.heap.get? b = some o → s'.heap.get? b = some o ∧ H' b = none := fun b hb o e =>
          let z := I'.pin (b, o) (List.mem_append_right _ (List.mem_append_right _ (mem_pinsAt hb e)))
          ⟨z.1, z.2.1⟩
        refine ⟨m', hm, i + 1, H', (I'.unpinned (pins := [])).weak hl hkp, T.keep _ _ _ st7 fun b hb o e => (pinned b hb o e).1, fun b hb => ?_, w'⟩
        obtain ⟨o, e, _⟩ := T.obj _ _ st7 b hb
        exact (pinned b hb o e).2
      have len8 : (wipe σ (own.map (·.2))).length = σ8.length := by rw [← hw8, wipe_length]
      have keep9 : ∀ (j : Nat) v, (wipe σ (own.map (·.2)))[j]? = some (some v) → (wipe σ8 vs1)[j]? = some (some v) := fun j v e => by
        rw [← hw8] at e
        obtain ⟨e1, e2⟩ := wipe_some e
        rw [wipe_out fun z => e2 (hv j z)]
        exact e1
      refine thnF (pi1.run _ s8 σ8 H8 _ I8 q8) fun xv s10 hx => thnF hx fun itv s11 h11 => ?_
      obtain ⟨it1, fp1, tn1, J1, H11, rfl, I11, T1, st11, f11, W1, ⟨m1, w1⟩, turn1⟩ := h11
      have stat1 : ∀ {H' : Hp}, (∀ b ∈ fp1, H' b = none) → ∀ b ∈ fp1, FpOk (X.blk sc Hc scope ce fp) ([] ++ pinsAt fp s7.heap) H' b := fun hn b hb => ⟨hn b hb, (f11 b hb).2⟩
      let Wi : Nat → Shared → Prop := fun k s' => ∃ j H', Inv (X.blk sc Hc scope ce fp) ([] ++ pinsAt fp s7.heap) (wipe σ8 vs1) H' s' ∧ tn1 j s'.heap ∧ (∀ b ∈ fp1, H' b = none) ∧ W1 j k H'
      have inner : codeAny (model X.prog X.w) X.A (.compLoop (dc2 kx vx tg iter tg1 iter1 scope pos) 1 (.ref it1) (.ref D) ce) (fun r s' => match r with
          | .ok _ => ∃ m, m < n ∧ Wd m s'
          | .error _ => False) s11 := by
        refine loop_i Wi ?_ m1 ⟨0, H11, I11.weak (wipe_length _ _) (fun j v e => (wipe_some e).1), st11, fun b hb => (f11 b hb).1, w1⟩
        rintro k s12 ⟨j, H12, I12, st12, n12, w12⟩
        rcases turn1 j k H12 w12 with ⟨stop1, nx1⟩ | ⟨go1, Nx1, hNx1, step1⟩
        · refine thnF (T1.done (X.blk sc Hc scope ce fp) rfl rfl rfl hc j _ s12 (wipe σ8 vs1) H12 (fun _ _ => False) I12 (stat1 n12) st12 stop1) fun r s13 ⟨hr, I13⟩ => ?_
          subst hr
          exact back I13 (len8.trans (wipe_length σ8 vs1).symm) keep9 nx1
        · refine thnF (T1.item (X.blk sc Hc scope ce fp) rfl rfl rfl hc j _ s12 (wipe σ8 vs1) H12 (fun _ _ => False) I12 (stat1 n12) st12 go1) fun r s13 ⟨u1, hr, h13⟩ => ?_
          subst hr
          refine thnF h13 fun _ s14 ⟨x1, H14, I14, r14, y14, st14, n14⟩ => ?_
          have I14' := I14.pinned (stat1 n14) (T1.obj _ _ st14)
          refine thnF (pg1.run _ s14 (wipe σ8 vs1) H14 x1 u1 _ I14' r14 (step1 x1 H14 y14)) fun _ s15 ⟨σ15, H15, I15, hw15, q15⟩ => ?_
          refine thnF (pk.run _ s15 σ15 H15 _ I15 q15) fun zk s16 ⟨yk, H16, I16, r16, q16⟩ => ?_
          refine thnF (pe.run _ s16 σ15 H16 _ I16 q16) fun zv s17 ⟨yv, H17, I17, r17, kvs, key, ek, hD17, hz17, nx⟩ => ?_
          subst ek
          refine d_dictSet (X := X.blk sc Hc scope ce fp) I17 hD17 hz17 r16 r17 fun s18 I18 => ?_
          obtain ⟨m', hm, w'⟩ := hNx1 _ nx
          have pinned : ∀ b ∈ fp1, ∀ o, s14.heap.get? b = some o → s18.heap.get? b = some o ∧ _ := fun b hb o e =>
            let z := I18.pin (b, o) (List.mem_append_right _ (List.mem_append_right _ (mem_pinsAt hb e)))
            ⟨z.1, z.2.1⟩
          refine ⟨m', hm, j + 1, _, I18.unpinned.weak (by rw [← hw15, wipe_length]) (fun j v e => by rw [← hw15] at e; exact (wipe_some e).1), T1.keep _ _ _ st14 fun b hb o e => (pinned b hb o e).1, fun b hb => ?_, w'⟩
          obtain ⟨o, e, _⟩ := T1.obj _ _ st14 b hb
          exact (pinned b hb o e).2
      exact start_i inner (T1.self X.A 0 _ _ _ st11 inner)
  exact codeAny_compStart_dict outer (T.self X.A 0 _ _ _ std outer)
end
end IdR
end
section
set_option maxRecDepth 100000
set_option maxHeartbeats 4000000
/-! Rules that the layer lacks, 5: t >= u; enumerate(t) of a tuple. -/
namespace IdR
open PySem PySem.W PyProof.Rows L2 SeqAt
section
variable {X : Cx}
def rGeT (K : PySem.W.Frag) : R2 := fun x y H Q => ∃ (a b : Addr) (ns ms : List Int), x = .ref a ∧ y = .ref b ∧ SqT K H a (ns.map V.int) ∧ SqT K H b (ms.map V.int) ∧ Q (.bl (!decide (ns < ms))) H
/-- t >= u, tuples of ints -/
theorem op_geT (hu : X.A.units + 64 < cLine) : OpR X (compareOp .GtE) (rGeT X.K) := by
  intro pins s σ H x y v u Q I rx ry h
  obtain ⟨a, b, ns, ms, rfl, rfl, ha, hb, q⟩ := h
  obtain ⟨as, r1⟩ := Dp.reads I (tupD ns) (.ref a) v (.tup ha (dpAll_ints ns)) rx
  obtain ⟨bs, r2⟩ := Dp.reads I (tupD ms) (.ref b) u (.tup hb (dpAll_ints ms)) ry
  refine ge_data r1 r2 (alike_tups ns ms) (fun z => by cases z) (by rw [depth_tup, depth_tup]; omega) ⟨.bl _, H, I, rfl, ?_⟩
  have e : dataLt (tupD ns) (tupD ms) = decide (ns < ms) := by
    rw [dataLt_tuple]
    exact dataLt_ints ns ms
  rw [e]
  exact q

/-! ### enumerate of a tuple -/
set_option maxHeartbeats 4000000 in
theorem meets_enumT (l : Addr) (items : Array Value) (n : Nat) (dct : Option Addr) (sl : Array (Option Value)) :
    Meets (Builtin.«enumerate.__new__» ⟨[.type "enumerate", .ref l], []⟩) (fun _ R s => s.heap.get? l = some { cls := .type "tuple", dict := dct, data := .seq items n, slots := sl } ∧
      R (.ok (.ret (.ref (s.heap.push { cls := .type "tuple_iterator", data := .fields #[.ref l, .int 0 0] }).objs.size)))
        { s with heap := (s.heap.push { cls := .type "tuple_iterator", data := .fields #[.ref l, .int 0 0] }).push { cls := .type "enumerate", data := .fields #[.none, .bool false, .ref s.heap.objs.size, rawInt 0, .none, .none] } }) :=
  .of_wp fun prog w A R s h => by
    obtain ⟨hp, g, d, tk, os⟩ := s
    obtain ⟨hl, h⟩ := h
    have subE := sub_enumerate
    have asT : Heap.IsTuple (Shared.heap ⟨hp, g, d, tk, os⟩) l items := ⟨_, hl, rfl, n, rfl⟩
    wp_walk using AutoSeq1.wpAny_loadPart' hl
    refine wpAny_stack_any fun st => wpAny_pure ?_
    split
    · rename_i c _ _ _ _ _
      cases (c == Value.type "enumerate") <;> (wp_walk using AutoSeq1.wpAny_loadPart' hl, wpAny_pyIter_tuple asT; exact ⟨_, rfl, h⟩)
    · wp_walk using AutoSeq1.wpAny_loadPart' hl, wpAny_pyIter_tuple asT
      exact ⟨_, rfl, h⟩
theorem call_enumT {prog : Program} {w : World} {A : Around} {E : Value → Shared → Prop} {s : Shared} {l : Addr} {items : Array Value} {Q : Value → Shared → Prop} (hT : s.heap.IsTuple l items)
    (h : ∀ h', IsEnum h' (s.heap.objs.size + 1) s.heap.objs.size 0 .none → h'.IsTupleIter s.heap.objs.size l 0 → (∀ b o, s.heap.get? b = some o → h'.get? b = some o) → Q (.ref (s.heap.objs.size + 1)) { s with heap := h' }) :
    wpAny (model prog w) A (call (.type "enumerate") [.ref l]) Q E s := by
  obtain ⟨⟨c, dct, dt, sl⟩, hl, hc, n, hd⟩ := hT
  replace hc : c = .type "tuple" := hc
  replace hd : dt = .seq items n := hd
  subst hc hd
  refine callType_new F.called_enumerate (by decide) (F.typeCall_enumerate_1 _) (F.newCall_enumerate_1 _) (fun obj => F.args_object_init_2 obj _) F.entry_enumerate_new (meets_enumT l items n dct sl) ⟨hl, ?_⟩
  have sz : (s.heap.push { cls := .type "tuple_iterator", data := .fields #[.ref l, .int 0 0] }).objs.size = s.heap.objs.size + 1 := Heap.size_push ..
  show _ ∧ _
  rw [sz]
  have he : IsEnum ((s.heap.push { cls := .type "tuple_iterator", data := .fields #[.ref l, .int 0 0] }).push { cls := .type "enumerate", data := .fields #[.none, .bool false, .ref s.heap.objs.size, rawInt 0, .none, .none] }) (s.heap.objs.size + 1) s.heap.objs.size 0 .none := by
    have z := Heap.get?_push_size (s.heap.push { cls := .type "tuple_iterator", data := .fields #[.ref l, .int 0 0] }) (o := { cls := .type "enumerate", data := .fields #[.none, .bool false, .ref s.heap.objs.size, rawInt 0, .none, .none] }) rfl
    rw [sz] at z
    exact z
  exact ⟨⟨_, he, rfl⟩, h _ he ⟨_, Heap.get?_push_of_some _ (Heap.get?_push_size _ rfl), rfl, rfl⟩ fun b o x => Heap.get?_push_of_some _ (Heap.get?_push_of_some _ x)⟩

/-- the items of the tuple at a with their numbers, each a new pair -/
def ItE (K : PySem.W.Frag) (a : Addr) : It :=
  ⟨fun i H => ∃ (xs : List V) (x : V), SqT K H a xs ∧ xs[i]? = some x, fun i H v H' => ∃ T x, v = .ref T ∧ H T = none ∧ H' = upd H T (.tup [.int (i : Nat), x]) ∧ ∀ xs, SqT K H a xs → xs[i]? = some x, fun i H => ∃ xs : List V, SqT K H a xs ∧ xs.length ≤ i⟩
theorem turn_enumT {P : Program} {w : World} {K : PySem.W.Frag} {elts : List Expr} {kk : Nat} {tpos : Pos} (a e it : Addr) :
    Turn P w K (.Tuple elts kk tpos) (ItE K a) [e, it] e (fun i h => (∃ old, IsEnum h e it ((i : Nat) : Int) old) ∧ h.IsTupleIter it a i ∧ e ≠ it) where
  mem := by simp
  obj := fun i h st b hb => by
    obtain ⟨⟨old, he⟩, ⟨o, ho, hc, hd⟩, _⟩ := st
    have e' : b = e ∨ b = it := by simpa using hb
    rcases e' with z | z
    · rw [z]; exact ⟨_, he, fun v q => nomatch q⟩
    · rw [z]; exact ⟨o, ho, fun v q => by rw [hd] at q; cases q⟩
  keep := fun i h h' st k => let ⟨⟨old, he⟩, hi, hne⟩ := st; ⟨⟨old, k e (by simp) _ he⟩, hi.at fun o q => k it (by simp) o q, hne⟩
  item := by
    intro X hP hw hK hc i pins s σ H E I hf st hg
    subst hP hw hK
    obtain ⟨⟨old, he⟩, hit, hne⟩ := st
    obtain ⟨xs, x, hq, hx⟩ := hg
    obtain ⟨its, rv, p, hz⟩ := I.tuple hq
    obtain ⟨u, hu, ru⟩ := rv.get hx
    have hel : e < s.heap.objs.size := Heap.lt_size he
    have hil : it < s.heap.objs.size := by obtain ⟨_, q, _⟩ := hit; exact Heap.lt_size q
    have nae : e ≠ a := fun z => by
      obtain ⟨o, ho, hcl, _⟩ := p
      rw [← z, he] at ho
      cases ho
      exact absurd hcl (show ¬ (Value.type "enumerate" = Value.type "tuple") by decide)
    have nai : a ≠ it := fun z => by
      obtain ⟨o, ho, hcl, _⟩ := p
      obtain ⟨o2, ho2, hcl2, _⟩ := hit
      rw [z, ho2] at ho
      cases ho
      rw [hcl2] at hcl
      exact absurd hcl (by decide)
    have D := Draws.tuple (prog := X.prog) (w := X.w) (A := X.A.in1) (I.ok.hd hc) it a nai its.toArray
    have hi : i < its.toArray.size := by
      have := (List.getElem?_eq_some_iff.mp hu).1
      simpa using this
    refine wpAny_pyNext_enum_itemD D he ⟨hit, p⟩ hi hne (by simp [hne, nae]) fun x' h' tk hx' ho hst' hT hsz hk => ?_
    have ex : x' = u := by
      have z : its[i]? = some x' := by simpa using hx'
      rw [hu] at z
      exact (Option.some.inj z).symm
    subst ex
    refine ⟨_, rfl, wpAny_letOwnedTupleGo_enum (s := { s with heap := h', toks := tk + 1 }) ho fun h'' he' sb => ?_⟩
    have hT2 : h''.get? s.heap.objs.size = some { cls := .type "tuple", data := .seq #[.int i tk, x'] } := (sb.2 _ (Nat.ne_of_gt hel)).trans hT
    have new : ObjOk X.prog X.w (upd H s.heap.objs.size (.tup [.int (i : Nat), x])) h'' s.heap.objs.size (.tup [.int (i : Nat), x]) :=
      ⟨by show 2 ≤ sizeLine; decide, [.int i tk, x'], .cons ⟨_, rfl⟩ (.cons ru .nil), ⟨_, hT2, rfl, _, rfl⟩⟩
    have I1 : Inv X pins σ (upd H s.heap.objs.size (.tup [.int (i : Nat), x])) { s with heap := h'', toks := tk + 1 } :=
      I.turnedNew (ch := [e, it]) (fun b ob hb q => (sb.2 b (fun z => hb (by simp [z]))).trans (hk b ob (fun z => hb (by simp [z])) (fun z => hb (by simp [z])) q)) hf (Nat.le_refl _) new
    refine ⟨.ref s.heap.objs.size, _, I1, rfl, ⟨_, x, rfl, I.hok.fresh (Nat.le_refl _), rfl, fun ys hy => by rw [I.tuple_inj hy hq]; exact hx⟩, ⟨⟨x', ?_⟩, hst'.1.at fun o q => (sb.2 it (Ne.symm hne)).trans q, hne⟩, fun b hb => ?_⟩
    · have e1 : ((i + 1 : Nat) : Int) = (i : Int) + 1 := by omega
      rw [e1]; exact he'
    · have hb' : b < s.heap.objs.size := by
        have e' : b = e ∨ b = it := by simpa using hb
        rcases e' with z | z
        · rw [z]; exact hel
        · rw [z]; exact hil
      rw [upd_ne (Nat.ne_of_lt hb')]
      exact (hf b hb).1
  done := by
    intro X hP hw hK hc i pins s σ H E I hf st hg
    subst hP hw hK
    obtain ⟨⟨old, he⟩, hit, hne⟩ := st
    obtain ⟨xs, hq, hx⟩ := hg
    obtain ⟨its, rv, p, hz⟩ := I.tuple hq
    obtain ⟨f0, f1, f2, f3, f4, f5⟩ := hf it (by simp)
    have hl := rv.length
    have nai : a ≠ it := fun z => by
      obtain ⟨o, ho, hcl, _⟩ := p
      obtain ⟨o2, ho2, hcl2, _⟩ := hit
      rw [z, ho2] at ho
      cases ho
      rw [hcl2] at hcl
      exact absurd hcl (by decide)
    have hT : s.TypeIs (.ref e) "enumerate" := ⟨_, he, rfl⟩
    unfold pyNext
    refine wpAny_bind (wpAny_attempt (wpAny_callSpecial?_slot (name := Str.ofString "__next__") hT F.slot_enumerate_next (wpAny_call_entry F.slot_enumerate_next hT F.entry_enumerate_next ?_ (F.args_enumerate_next_1 _))))
    show wpAny _ _ (field (.ref e) 2 >>= _) _ _ _
    refine wpAny_bind (wpAny_field he rfl (x := .ref it) rfl ?_)
    refine wpAny_bind (wpAny_nextOf_tuple_end (I.ok.hd hc) hit p (by simp; omega) fun h' x eb hx' => ?_)
    obtain ⟨o, ho, hcl⟩ := hx'
    refine wpAny_bind (wpAny_isInstance (T := "StopIteration") (b := true) ⟨o, ho, hcl⟩ isSubtype_stop ?_)
    exact wpAny_pure ⟨rfl, I.turned (t' := s.toks) (fun b o hb q => eb b o hb q) f0 f1 f3 f4 f5⟩
  self := fun A i s Q E st h => let ⟨⟨_, he⟩, _⟩ := st; wpAny_pyIter_enum he h
def iEnumT (K : PySem.W.Frag) (ta : TA) : TI := fun σ H R => ta σ H fun vs H1 => ∃ a xs, vs = [.ref a] ∧ SqT K H1 a xs ∧ R (ItE K a) H1
theorem pi_enumT {e : Expr} {ta : TA} {p pos tpos : Pos} {elts : List Expr} {kk : Nat} (hg : Gl X "enumerate") (hm : X.mg "enumerate" = none) (ha : PA X [e] ta) (hs : starEach [e] X.env = [(false, eval e X.env)] := by rfl) :
    PI X (.Tuple elts kk tpos) (.Call (.Name "enumerate" p) [e] [] pos) (iEnumT X.K ta) := by
  refine ⟨fun pins s σ H R I h => ?_⟩
  refine Call_ (ld_blt I hg hm boot_enumerate (PyProof.Rows.callWith_type1 (thn (ha.run pos pins s σ H _ I h) fun us s1 ⟨vs, H1, I1, r1, q1⟩ => ?_) hs rfl))
  obtain ⟨a, xs, rfl, hq, q⟩ := q1
  obtain ⟨u, rfl, ru⟩ := vals1 r1
  obtain rfl : u = Value.ref a := ru
  obtain ⟨its, rv, p', hz⟩ := I1.tuple hq
  refine call_enumT p' fun h' he hit hk => wpAny_pyIter_enum he ?_
  have I2 : Inv X pins σ H1 { s1 with heap := h' } := I1.kept (t' := s1.toks) hk
  refine ⟨s1.heap.objs.size + 1, [s1.heap.objs.size + 1, s1.heap.objs.size], _, _, H1, rfl, I2, turn_enumT a (s1.heap.objs.size + 1) s1.heap.objs.size, ⟨⟨.none, he⟩, hit, Nat.succ_ne_self _⟩, fun b hb => ?_, q⟩
  have e' : b = s1.heap.objs.size + 1 ∨ b = s1.heap.objs.size := by simpa using hb
  have hle : s1.heap.objs.size ≤ b := by
    rcases e' with z | z
    · rw [z]; exact Nat.le_add_right _ _
    · rw [z]; exact Nat.le_refl _
  exact I1.fpOk hle (I1.hok.fresh hle)
end
end IdR
end
section
set_option maxRecDepth 100000
/-! Common words of the walks: what an iterator yields, loops and comprehensions by the items done so far, calls by name. -/
namespace IdW
open PySem PySem.Spec PyProof.Rows L2 IdR RZ

/-! ### heaps -/
theorem Same.tup {K : PySem.W.Frag} {H H' : Hp} {a : Addr} {xs : List V} (e : Same H H') (h : SqT K H a xs) : SqT K H' a xs := by
  rcases h with (h | ⟨o, h⟩) | h
  · exact .inl (.inl (e _ _ h))
  · exact .inl (.inr ⟨o, e _ _ h⟩)
  · exact .inr h
theorem same_new {H : Hp} {p : Addr} (o : HO) (h : H p = none) : Same H (upd H p o) := fun b u q => by rw [upd_ne (ne_of_none q h)]; exact q
theorem ty_tup {K : PySem.W.Frag} {H : Hp} {a : Addr} {xs : List V} (h : SqT K H a xs) : TyX K H (.ref a) (.type "tuple") := by
  rcases h with (h | ⟨o, h⟩) | ⟨o, its, n, h1, h2, _⟩
  · exact .base (.tup h)
  · exact .fTuple h
  · exact .kTuple h1 h2
/-- all that was tracked is as it was, but at the places in B -/
def But (B : List Addr) (H H' : Hp) : Prop := ∀ b o, b ∉ B → H b = some o → H' b = some o
theorem But.refl {B : List Addr} (H : Hp) : But B H H := fun _ _ _ h => h
theorem But.of {B : List Addr} {H H' : Hp} (h : Same H H') : But B H H' := fun b o _ e => h b o e
theorem But.trans {B : List Addr} {H H1 H2 : Hp} (a : But B H H1) (b : But B H1 H2) : But B H H2 := fun c o n h => b c o n (a c o n h)
theorem But.mono {B B' : List Addr} {H H' : Hp} (a : But B H H') (h : ∀ b ∈ B, b ∈ B') : But B' H H' := fun c o n e => a c o (fun z => n (h c z)) e
theorem But.set {B : List Addr} {H : Hp} {d : Addr} {o : HO} (h : d ∈ B) : But B H (upd H d o) := fun c u n e => by
  rw [upd_ne (fun z => n (by rw [z]; exact h))]; exact e
theorem But.same {H H' : Hp} (a : But [] H H') : Same H H' := fun b o e => a b o (by simp) e

/-! ### what an iterator yields, while I holds of the heap -/
def Yields {α : Type} (J : It) (I : Hp → Prop) (items : List α) (P : α → V → Hp → Prop) : Prop :=
  ∀ H, I H → (∀ i, i < items.length → J.go i H) ∧ J.stop items.length H ∧ ∀ i x H', i < items.length → J.yld i H x H' → Same H H' ∧ ∃ a, items[i]? = some a ∧ P a x H'
section
variable {α β : Type} {J : It} {I : Hp → Prop} {items : List α} {P : α → V → Hp → Prop} {K : PySem.W.Frag}
theorem Yields.map {f : β → α} {bs : List β} (Y : Yields J I (bs.map f) P) : Yields J I bs (fun b x H => P (f b) x H) := fun H h => by
  obtain ⟨h1, h2, h3⟩ := Y H h
  rw [List.length_map] at h1 h2 h3
  refine ⟨h1, h2, fun i x H' hi y => ?_⟩
  obtain ⟨s, a, e, p⟩ := h3 i x H' hi y
  rw [List.getElem?_map] at e
  obtain ⟨b, e1, e2⟩ := Option.map_eq_some_iff.mp e
  exact ⟨s, b, e1, by show P (f b) x H'; rw [e2]; exact p⟩
theorem y_list {a : Addr} {xs : List V} : Yields (Itl K a) (fun H => SqL K H a xs) xs (fun v x _ => x = v) := fun H h =>
  ⟨fun i hi => ⟨xs, xs[i], h, by simp [hi]⟩, ⟨xs, h, Nat.le_refl _⟩, fun i x H' hi y => ⟨by rw [y.1]; exact Same.refl H, x, y.2 xs h, rfl⟩⟩
theorem y_tup {a : Addr} {xs : List V} : Yields (Itt K a) (fun H => SqT K H a xs) xs (fun v x _ => x = v) := fun H h =>
  ⟨fun i hi => ⟨xs, xs[i], h, by simp [hi]⟩, ⟨xs, h, Nat.le_refl _⟩, fun i x H' hi y => ⟨by rw [y.1]; exact Same.refl H, x, y.2 xs h, rfl⟩⟩
theorem y_rng {lo : Int} {n : Nat} : Yields (Itr lo n) (fun _ => True) (List.range n) (fun (i : Nat) x _ => x = .int (lo + i)) := fun H h => by
  rw [List.length_range]
  exact ⟨fun i hi => hi, Nat.le_refl n, fun i x H' hi y => ⟨by rw [y.1]; exact Same.refl H, i, by rw [List.getElem?_range hi], y.2⟩⟩
theorem y_keys {d : Addr} {o : Obj} {kvs : List (Key × V)} : Yields (Itk d o kvs) (fun H => H d = some (.frz o (.dK kvs))) kvs (fun p x _ => x = kV p.1) := fun H h =>
  ⟨fun i hi => ⟨h, hi⟩, ⟨h, Nat.le_refl _⟩, fun i x H' hi y => by
    obtain ⟨e, k, v, e1, e2⟩ := y
    exact ⟨by rw [e]; exact Same.refl H, (k, v), e1, e2⟩⟩
theorem y_keysT {d : Addr} {o : Obj} {kvs : List (List Key × V)} : Yields (Itkt d o kvs) (fun H => H d = some (.frz o (.dT kvs))) kvs (fun p x H => ∃ q, x = .ref q ∧ H q = some (.tup (p.1.map kV))) := fun H h =>
  ⟨fun i hi => ⟨h, hi⟩, ⟨h, Nat.le_refl _⟩, fun i x H' hi y => by
    obtain ⟨e, k, v, q, e1, e2, e3⟩ := y
    rw [e]
    exact ⟨Same.refl H, (k, v), e1, q, e2, e3⟩⟩
theorem y_vals {d : Addr} {o : Obj} {kvs : List (Key × V)} : Yields (Itd d o kvs) (fun H => H d = some (.frz o (.dK kvs))) kvs (fun p x _ => x = p.2) := fun H h =>
  ⟨fun i hi => ⟨h, hi⟩, ⟨h, Nat.le_refl _⟩, fun i x H' hi y => by
    obtain ⟨e, k, e1⟩ := y
    exact ⟨by rw [e]; exact Same.refl H, (k, x), e1, rfl⟩⟩
theorem y_items {d : Addr} {o : Obj} {kvs : List (Key × V)} : Yields (Iti d o kvs) (fun H => H d = some (.frz o (.dK kvs))) kvs (fun p x H => ∃ T, x = .ref T ∧ H T = some (.tup [kV p.1, p.2])) := fun H h =>
  ⟨fun i hi => ⟨h, hi⟩, ⟨h, Nat.le_refl _⟩, fun i x H' hi y => by
    obtain ⟨T, k, v, e1, e2, e3, e4⟩ := y
    rw [e4]
    exact ⟨same_new _ e3, (k, v), e1, T, e2, upd_same⟩⟩
theorem y_enum {a : Addr} {xs : List V} : Yields (ItE K a) (fun H => SqT K H a xs) xs.zipIdx (fun p x H => ∃ T, x = .ref T ∧ H T = some (.tup [.int (p.2 : Nat), p.1])) := fun H h => by
  rw [List.length_zipIdx]
  refine ⟨fun i hi => ⟨xs, xs[i], h, by simp [hi]⟩, ⟨xs, h, Nat.le_refl _⟩, fun i x H' hi y => ?_⟩
  obtain ⟨T, v, e1, e2, e3, e4⟩ := y
  have z := e4 xs h
  rw [e3]
  exact ⟨same_new _ e2, (v, i), by rw [List.getElem?_zipIdx, z]; simp, T, e1, upd_same⟩
theorem zip_get {α β : Type} : ∀ {xs : List α} {ys : List β} {i : Nat} {x : α} {y : β}, xs[i]? = some x → ys[i]? = some y → (xs.zip ys)[i]? = some (x, y)
  | [], _, _, _, _, h, _ => by simp at h
  | _ :: _, [], _, _, _, _, h => by simp at h
  | a :: xs, b :: ys, 0, x, y, h1, h2 => by simp at h1 h2; simp [h1, h2]
  | a :: xs, b :: ys, i + 1, x, y, h1, h2 => by
    show ((a, b) :: xs.zip ys)[i + 1]? = _
    rw [List.getElem?_cons_succ]
    exact zip_get (by simpa using h1) (by simpa using h2)
theorem y_zipL {a b : Addr} {xs ys : List V} : Yields (Itz K a b) (fun H => SqL K H a xs ∧ SqL K H b ys) (xs.zip ys) (fun p x H => ∃ T, x = .ref T ∧ H T = some (.tup [p.1, p.2])) := fun H h => by
  refine ⟨fun i hi => ?_, ⟨xs, ys, h.1, h.2, ?_⟩, fun i x H' hi y => ?_⟩
  · rw [List.length_zip] at hi
    have h1 : i < xs.length := by omega
    have h2 : i < ys.length := by omega
    exact ⟨xs, ys, xs[i], ys[i], h.1, h.2, by simp [h1], by simp [h2]⟩
  · rw [List.length_zip]; omega
  · obtain ⟨T, u, v, e1, e2, e3, e4, e5⟩ := y
    rw [e3]
    exact ⟨same_new _ e2, (u, v), zip_get (e4 _ h.1) (e5 _ h.2), T, e1, upd_same⟩
theorem y_zipT {a b : Addr} {xs ys : List V} : Yields (ItzT K a b) (fun H => SqT K H a xs ∧ SqT K H b ys) (xs.zip ys) (fun p x H => ∃ T, x = .ref T ∧ H T = some (.tup [p.1, p.2])) := fun H h => by
  refine ⟨fun i hi => ?_, ⟨xs, ys, h.1, h.2, ?_⟩, fun i x H' hi y => ?_⟩
  · rw [List.length_zip] at hi
    have h1 : i < xs.length := by omega
    have h2 : i < ys.length := by omega
    exact ⟨xs, ys, xs[i], ys[i], h.1, h.2, by simp [h1], by simp [h2]⟩
  · rw [List.length_zip]; omega
  · obtain ⟨T, u, v, e1, e2, e3, e4, e5⟩ := y
    rw [e3]
    exact ⟨same_new _ e2, (u, v), zip_get (e4 _ h.1) (e5 _ h.2), T, e1, upd_same⟩

theorem split_at {i : Nat} {x : α} {xs : List α} (h : xs[i]? = some x) : xs = xs.take i ++ x :: xs.drop (i + 1) := by
  obtain ⟨hi, e⟩ := List.getElem?_eq_some_iff.mp h
  rw [← e, ← List.drop_eq_getElem_cons hi, List.take_append_drop]
theorem take_next {i : Nat} {x : α} {xs : List α} (h : xs[i]? = some x) : xs.take (i + 1) = xs.take i ++ [x] := by
  rw [List.take_succ, h]; rfl

/-- a for loop: Pv of the items done, the slots, the heap -/
theorem for_y {g : TG} {tb : TS} {D : Ends} {σ : L2.St} {H : Hp} (Y : Yields J I items P) (Pv : List α → L2.St → Hp → Prop) (h0 : Pv [] σ H) (hI : ∀ done rest σ H, items = done ++ rest → Pv done σ H → I H)
    (hs : ∀ done a rest x σ H H', items = done ++ a :: rest → Pv done σ H → Same H H' → P a x H' → g x σ H' fun σ2 H2 => tb { D with nx := Pv (done ++ [a]), ct := Pv (done ++ [a]), bk := D.nx } σ2 H2)
    (hd : ∀ σ H, Pv items σ H → D.nx σ H) :
    ∃ W : Nat → Nat → L2.St → Hp → Prop, (∃ m, W 0 m σ H) ∧ ∀ i m σ H, W i m σ H →
      (J.stop i H ∧ D.nx σ H) ∨ (J.go i H ∧ ∃ N : L2.St → Hp → Prop, (∀ σ' H', N σ' H' → ∃ m', m' < m ∧ W (i + 1) m' σ' H') ∧ ∀ x H', J.yld i H x H' → g x σ H' fun σ2 H2 => tb { D with nx := N, ct := N, bk := D.nx } σ2 H2) := by
  refine ⟨fun i m σ H => m = items.length - i ∧ i ≤ items.length ∧ Pv (items.take i) σ H, ⟨items.length, by simp, Nat.zero_le _, by simpa using h0⟩, ?_⟩
  rintro i m σ H ⟨rfl, hi, p⟩
  obtain ⟨y1, y2, y3⟩ := Y H (hI _ (items.drop i) σ H (List.take_append_drop i items).symm p)
  by_cases hlt : i < items.length
  · refine .inr ⟨y1 i hlt, fun σ' H' => Pv (items.take (i + 1)) σ' H', fun σ' H' p' => ⟨items.length - (i + 1), by omega, rfl, hlt, p'⟩, fun x H' y => ?_⟩
    obtain ⟨s, a, e, q⟩ := y3 i x H' hlt y
    have e2 := take_next e
    rw [e2]
    exact hs _ a _ x σ H H' (split_at e) p s q
  · have e : i = items.length := by omega
    subst e
    rw [List.take_length] at p
    exact .inl ⟨y2, hd σ H p⟩

/-- a list comprehension: Pv of the items done, the heap (with the new list at D) -/
theorem lc_y {g : TG} {tt : TT} {te : TE} {vs : List Nat} {σ : L2.St} {H1 : Hp} {D : Addr} {Qd : Hp → Prop} (Y : Yields J I items P) (Pv : List α → Hp → Prop) (h0 : Pv [] (upd H1 D (.lst []))) (hI : ∀ done rest H, items = done ++ rest → Pv done H → I H)
    (hs : ∀ done a rest x H H', items = done ++ a :: rest → Pv done H → Same H H' → P a x H' → g x (wipe σ vs) H' fun σ2 H2 => wipe σ2 vs = wipe σ vs ∧ tt σ2 H2 fun b H3 =>
      if b = true then te σ2 H3 fun y H4 => ∃ acc, H4 D = some (.lst acc) ∧ acc.length < sizeLine ∧ Pv (done ++ [a]) (upd H4 D (.lst (acc ++ [y]))) else Pv (done ++ [a]) H3)
    (hd : ∀ H, Pv items H → Qd H) :
    ∃ W : Nat → Nat → Hp → Prop, (∃ m, W 0 m (upd H1 D (.lst []))) ∧ ∀ i m H, W i m H →
      (J.stop i H ∧ Qd H) ∨ (J.go i H ∧ ∃ Nx : Hp → Prop, (∀ H', Nx H' → ∃ m', m' < m ∧ W (i + 1) m' H') ∧ ∀ x H', J.yld i H x H' → g x (wipe σ vs) H' fun σ2 H2 => wipe σ2 vs = wipe σ vs ∧ tt σ2 H2 fun b H3 =>
        if b = true then te σ2 H3 fun y H4 => ∃ acc, H4 D = some (.lst acc) ∧ acc.length < sizeLine ∧ Nx (upd H4 D (.lst (acc ++ [y]))) else Nx H3) := by
  refine ⟨fun i m H => m = items.length - i ∧ i ≤ items.length ∧ Pv (items.take i) H, ⟨items.length, by simp, Nat.zero_le _, by simpa using h0⟩, ?_⟩
  rintro i m H ⟨rfl, hi, p⟩
  obtain ⟨y1, y2, y3⟩ := Y H (hI _ (items.drop i) H (List.take_append_drop i items).symm p)
  by_cases hlt : i < items.length
  · refine .inr ⟨y1 i hlt, fun H' => Pv (items.take (i + 1)) H', fun H' p' => ⟨items.length - (i + 1), by omega, rfl, hlt, p'⟩, fun x H' y => ?_⟩
    obtain ⟨s, a, e, q⟩ := y3 i x H' hlt y
    have e2 := take_next e
    rw [e2]
    exact hs _ a _ x H H' (split_at e) p s q
  · have e : i = items.length := by omega
    subst e
    rw [List.take_length] at p
    exact .inl ⟨y2, hd H p⟩
/-- .. that changes nothing that was tracked: the items kept, each by its value -/
theorem lc_keep {g : TG} {tt : TT} {te : TE} {vs : List Nat} {σ : L2.St} {H1 : Hp} {D : Addr} {Qd : Hp → Prop} (Y : Yields J I items P) (hD : H1 D = none) (hI : ∀ H, Same H1 H → I H) (keep : α → Bool) (f : α → V) (hz : items.length ≤ 1000)
    (hs : ∀ a x H, a ∈ items → Same H1 H → P a x H → ∀ (R : V → Hp → Prop) (R' : Hp → Prop), (keep a = true → ∀ H4, Same H H4 → R (f a) H4) → (keep a = false → ∀ H4, Same H H4 → R' H4) →
      g x (wipe σ vs) H fun σ2 H2 => wipe σ2 vs = wipe σ vs ∧ tt σ2 H2 fun b H3 => if b = true then te σ2 H3 R else R' H3)
    (hd : ∀ H, Same H1 H → H D = some (.lst ((items.filter keep).map f)) → Qd H) :
    ∃ W : Nat → Nat → Hp → Prop, (∃ m, W 0 m (upd H1 D (.lst []))) ∧ ∀ i m H, W i m H →
      (J.stop i H ∧ Qd H) ∨ (J.go i H ∧ ∃ Nx : Hp → Prop, (∀ H', Nx H' → ∃ m', m' < m ∧ W (i + 1) m' H') ∧ ∀ x H', J.yld i H x H' → g x (wipe σ vs) H' fun σ2 H2 => wipe σ2 vs = wipe σ vs ∧ tt σ2 H2 fun b H3 =>
        if b = true then te σ2 H3 fun y H4 => ∃ acc, H4 D = some (.lst acc) ∧ acc.length < sizeLine ∧ Nx (upd H4 D (.lst (acc ++ [y]))) else Nx H3) := by
  refine lc_y Y (fun done H => Same H1 H ∧ H D = some (.lst ((done.filter keep).map f))) ⟨same_new _ hD, upd_same⟩ (fun _ _ H _ p => hI H p.1) (fun done a rest x H H' e p s q => ?_) fun H p => hd H p.1 p.2
  have sz : ((done.filter keep).map f).length < sizeLine := by
    rw [List.length_map]
    have h1 := List.length_filter_le keep done
    have h2 : items.length = done.length + (rest.length + 1) := by rw [e, List.length_append, List.length_cons]
    exact small1000 (by omega)
  refine hs a x H' (by rw [e]; simp) (p.1.trans s) q _ _ (fun hb H4 r4 => ?_) fun hb H4 r4 => ?_
  · have hD4 : H4 D = some (.lst ((done.filter keep).map f)) := r4 _ _ (s _ _ p.2)
    refine ⟨_, hD4, sz, ⟨fun b o eo => ?_, ?_⟩⟩
    · rw [upd_ne (ne_of_none eo hD)]
      exact r4 _ _ (s _ _ (p.1 _ _ eo))
    · rw [upd_same, List.filter_append, List.map_append]
      have : [a].filter keep = [a] := by rw [List.filter_cons, if_pos hb]; rfl
      rw [this]; rfl
  · refine ⟨(p.1.trans s).trans r4, ?_⟩
    have : [a].filter keep = [] := by rw [List.filter_cons, if_neg (by rw [hb]; exact Bool.false_ne_true)]; rfl
    rw [List.filter_append, this, List.append_nil]
    exact r4 _ _ (s _ _ p.2)
/-- .. with no test -/
theorem lc_map {g : TG} {te : TE} {vs : List Nat} {σ : L2.St} {H1 : Hp} {D : Addr} {Qd : Hp → Prop} (Y : Yields J I items P) (hD : H1 D = none) (hI : ∀ H, Same H1 H → I H) (f : α → V) (hz : items.length ≤ 1000)
    (hs : ∀ a x H, a ∈ items → Same H1 H → P a x H → ∀ (R : V → Hp → Prop) (R' : Hp → Prop), (∀ H4, Same H H4 → R (f a) H4) → g x (wipe σ vs) H fun σ2 H2 => wipe σ2 vs = wipe σ vs ∧ tYes σ2 H2 fun b H3 => if b = true then te σ2 H3 R else R' H3)
    (hd : ∀ H, Same H1 H → H D = some (.lst (items.map f)) → Qd H) :
    ∃ W : Nat → Nat → Hp → Prop, (∃ m, W 0 m (upd H1 D (.lst []))) ∧ ∀ i m H, W i m H →
      (J.stop i H ∧ Qd H) ∨ (J.go i H ∧ ∃ Nx : Hp → Prop, (∀ H', Nx H' → ∃ m', m' < m ∧ W (i + 1) m' H') ∧ ∀ x H', J.yld i H x H' → g x (wipe σ vs) H' fun σ2 H2 => wipe σ2 vs = wipe σ vs ∧ tYes σ2 H2 fun b H3 =>
        if b = true then te σ2 H3 fun y H4 => ∃ acc, H4 D = some (.lst acc) ∧ acc.length < sizeLine ∧ Nx (upd H4 D (.lst (acc ++ [y]))) else Nx H3) :=
  lc_keep Y hD hI (fun _ => true) f hz (fun a x H m s p R R' h1 _ => hs a x H m s p R R' fun H4 s4 => h1 rfl H4 s4) fun H s e => hd H s (by
    have z : items.filter (fun _ => true) = items := List.filter_eq_self.mpr fun _ _ => rfl
    rw [z] at e; exact e)

theorem paired_snoc {α γ : Type} {R : α → γ → Prop} {x : α} {y : γ} (h : R x y) : ∀ {xs : List α} {ys : List γ}, Paired R xs ys → Paired R (xs ++ [x]) (ys ++ [y])
  | _, _, .nil => .cons h .nil
  | _, _, .cons r t => .cons r (paired_snoc h t)
/-- .. whose values are new objects: a value for each item kept -/
theorem lc_rel {g : TG} {tt : TT} {te : TE} {vs : List Nat} {σ : L2.St} {H1 : Hp} {D : Addr} {Qd : Hp → Prop} (Y : Yields J I items P) (hD : H1 D = none) (hI : ∀ H, Same H1 H → I H) (keep : α → Bool) (hz : items.length ≤ 1000)
    (VP : α → V → Hp → Prop) (hV : ∀ a v H H' acc, H D = some (.lst acc) → VP a v H → (∀ b o, b ≠ D → H b = some o → H' b = some o) → VP a v H')
    (hs : ∀ a x H, a ∈ items → Same H1 H → P a x H → ∀ (R : V → Hp → Prop) (R' : Hp → Prop), (keep a = true → ∀ v H4, VP a v H4 → Same H H4 → R v H4) → (keep a = false → ∀ H4, Same H H4 → R' H4) →
      g x (wipe σ vs) H fun σ2 H2 => wipe σ2 vs = wipe σ vs ∧ tt σ2 H2 fun b H3 => if b = true then te σ2 H3 R else R' H3)
    (hd : ∀ H acc, Same H1 H → H D = some (.lst acc) → Paired (fun a v => VP a v H) (items.filter keep) acc → Qd H) :
    ∃ W : Nat → Nat → Hp → Prop, (∃ m, W 0 m (upd H1 D (.lst []))) ∧ ∀ i m H, W i m H →
      (J.stop i H ∧ Qd H) ∨ (J.go i H ∧ ∃ Nx : Hp → Prop, (∀ H', Nx H' → ∃ m', m' < m ∧ W (i + 1) m' H') ∧ ∀ x H', J.yld i H x H' → g x (wipe σ vs) H' fun σ2 H2 => wipe σ2 vs = wipe σ vs ∧ tt σ2 H2 fun b H3 =>
        if b = true then te σ2 H3 fun y H4 => ∃ acc, H4 D = some (.lst acc) ∧ acc.length < sizeLine ∧ Nx (upd H4 D (.lst (acc ++ [y]))) else Nx H3) := by
  refine lc_y Y (fun done H => Same H1 H ∧ ∃ acc, H D = some (.lst acc) ∧ Paired (fun a v => VP a v H) (done.filter keep) acc) ⟨same_new _ hD, [], upd_same, .nil⟩ (fun _ _ H _ p => hI H p.1) (fun done a rest x H H' e p s q => ?_) fun H p => ?_
  · obtain ⟨p1, acc, p2, p3⟩ := p
    have hlen : items.length = done.length + (rest.length + 1) := by rw [e, List.length_append, List.length_cons]
    have sz : acc.length < sizeLine := by
      have h1 := List.length_filter_le keep done
      have h2 := Paired.length p3
      exact small1000 (by omega)
    refine hs a x H' (by rw [e]; simp) (p1.trans s) q _ _ (fun hb v H4 hv r4 => ?_) fun hb H4 r4 => ?_
    · have hD4 : H4 D = some (.lst acc) := r4 _ _ (s _ _ p2)
      have kp : ∀ b o, b ≠ D → H4 b = some o → (upd H4 D (.lst (acc ++ [v]))) b = some o := fun b o hb eo => by rw [upd_ne hb]; exact eo
      refine ⟨acc, hD4, sz, fun b o eo => kp b o (ne_of_none eo hD) (r4 _ _ (s _ _ (p1 _ _ eo))), _, upd_same, ?_⟩
      have ef : [a].filter keep = [a] := by rw [List.filter_cons, if_pos hb]; rfl
      rw [List.filter_append, ef]
      exact paired_snoc (R := fun c u => VP c u (upd H4 D (.lst (acc ++ [v])))) (hV _ _ _ _ _ hD4 hv kp) (L2.Paired.mapP p3 fun b p z => hV b p H _ _ p2 z fun c o hc ec => kp c o hc (r4 _ _ (s _ _ ec)))
    · have ef : [a].filter keep = [] := by rw [List.filter_cons, if_neg (by rw [hb]; exact Bool.false_ne_true)]; rfl
      refine ⟨(p1.trans s).trans r4, acc, r4 _ _ (s _ _ p2), ?_⟩
      rw [List.filter_append, ef, List.append_nil]
      exact L2.Paired.mapP p3 fun b p z => hV b p H _ _ p2 z fun c o _ ec => r4 _ _ (s _ _ ec)
  · obtain ⟨p1, acc, p2, p3⟩ := p
    exact hd H acc p1 p2 p3

/-- a dict comprehension: Pv of the items done, the heap (with the new dict at D) -/
theorem dc_y {g : TG} {tt : TT} {tk tv : TE} {vs : List Nat} {σ : L2.St} {H1 : Hp} {D : Addr} {Qd : Hp → Prop} (Y : Yields J I items P) (Pv : List α → Hp → Prop) (h0 : Pv [] (upd H1 D (.dK []))) (hI : ∀ done rest H, items = done ++ rest → Pv done H → I H)
    (hs : ∀ done a rest x H H', items = done ++ a :: rest → Pv done H → Same H H' → P a x H' → g x (wipe σ vs) H' fun σ2 H2 => wipe σ2 vs = wipe σ vs ∧ tt σ2 H2 fun b H3 =>
      if b = true then tk σ2 H3 fun y H4 => tv σ2 H4 fun z H5 => ∃ kvs k, y = kV k ∧ H5 D = some (.dK kvs) ∧ kvs.length < sizeLine ∧ Pv (done ++ [a]) (upd H5 D (.dK (putK kvs k z))) else Pv (done ++ [a]) H3)
    (hd : ∀ H, Pv items H → Qd H) :
    ∃ W : Nat → Nat → Hp → Prop, (∃ m, W 0 m (upd H1 D (.dK []))) ∧ ∀ i m H, W i m H →
      (J.stop i H ∧ Qd H) ∨ (J.go i H ∧ ∃ Nx : Hp → Prop, (∀ H', Nx H' → ∃ m', m' < m ∧ W (i + 1) m' H') ∧ ∀ x H', J.yld i H x H' → g x (wipe σ vs) H' fun σ2 H2 => wipe σ2 vs = wipe σ vs ∧ tt σ2 H2 fun b H3 =>
        if b = true then tk σ2 H3 fun y H4 => tv σ2 H4 fun z H5 => ∃ kvs k, y = kV k ∧ H5 D = some (.dK kvs) ∧ kvs.length < sizeLine ∧ Nx (upd H5 D (.dK (putK kvs k z))) else Nx H3) := by
  refine ⟨fun i m H => m = items.length - i ∧ i ≤ items.length ∧ Pv (items.take i) H, ⟨items.length, by simp, Nat.zero_le _, by simpa using h0⟩, ?_⟩
  rintro i m H ⟨rfl, hi, p⟩
  obtain ⟨y1, y2, y3⟩ := Y H (hI _ (items.drop i) H (List.take_append_drop i items).symm p)
  by_cases hlt : i < items.length
  · refine .inr ⟨y1 i hlt, fun H' => Pv (items.take (i + 1)) H', fun H' p' => ⟨items.length - (i + 1), by omega, rfl, hlt, p'⟩, fun x H' y => ?_⟩
    obtain ⟨s, a, e, q⟩ := y3 i x H' hlt y
    have e2 := take_next e
    rw [e2]
    exact hs _ a _ x H H' (split_at e) p s q
  · have e : i = items.length := by omega
    subst e
    rw [List.take_length] at p
    exact .inl ⟨y2, hd H p⟩
theorem paired_keys {γ : Type} {R : α → Key × γ → Prop} {kf : α → Key} (h : ∀ a p, R a p → p.1 = kf a) : ∀ {xs : List α} {ys : List (Key × γ)}, Paired R xs ys → ys.map (·.1) = xs.map kf
  | _, _, .nil => rfl
  | _, _, .cons r t => by rw [List.map_cons, List.map_cons, h _ _ r, paired_keys h t]
theorem valV_out {kvs : List (Key × V)} {k : Key} (h : k ∉ kvs.map (·.1)) : valV kvs k = none := by
  unfold valV
  rw [List.find?_eq_none.mpr fun p hp => by
    intro z
    exact h (List.mem_map.mpr ⟨p, hp, of_decide_eq_true z⟩)]
  rfl
/-- .. that changes nothing that was tracked, no key twice: an entry for each item kept -/
theorem dc_keep {g : TG} {tt : TT} {tk tv : TE} {vs : List Nat} {σ : L2.St} {H1 : Hp} {D : Addr} {Qd : Hp → Prop} (Y : Yields J I items P) (hD : H1 D = none) (hI : ∀ H, Same H1 H → I H) (keep : α → Bool) (kf : α → Key) (hz : items.length ≤ 1000) (hn : (items.map kf).Nodup)
    (VP : α → V → Hp → Prop) (hV : ∀ a v H H' kvs, H D = some (.dK kvs) → VP a v H → (∀ b o, b ≠ D → H b = some o → H' b = some o) → VP a v H')
    (hs : ∀ a x H, a ∈ items → Same H1 H → P a x H → ∀ (R : V → V → Hp → Prop) (R' : Hp → Prop), (keep a = true → ∀ v H4, VP a v H4 → Same H H4 → R (kV (kf a)) v H4) → (keep a = false → ∀ H4, Same H H4 → R' H4) →
      g x (wipe σ vs) H fun σ2 H2 => wipe σ2 vs = wipe σ vs ∧ tt σ2 H2 fun b H3 => if b = true then tk σ2 H3 fun y H4 => tv σ2 H4 fun z H5 => R y z H5 else R' H3)
    (hd : ∀ H (kvs : List (Key × V)), Same H1 H → H D = some (.dK kvs) → Paired (fun a p => p.1 = kf a ∧ VP a p.2 H) (items.filter keep) kvs → Qd H) :
    ∃ W : Nat → Nat → Hp → Prop, (∃ m, W 0 m (upd H1 D (.dK []))) ∧ ∀ i m H, W i m H →
      (J.stop i H ∧ Qd H) ∨ (J.go i H ∧ ∃ Nx : Hp → Prop, (∀ H', Nx H' → ∃ m', m' < m ∧ W (i + 1) m' H') ∧ ∀ x H', J.yld i H x H' → g x (wipe σ vs) H' fun σ2 H2 => wipe σ2 vs = wipe σ vs ∧ tt σ2 H2 fun b H3 =>
        if b = true then tk σ2 H3 fun y H4 => tv σ2 H4 fun z H5 => ∃ kvs k, y = kV k ∧ H5 D = some (.dK kvs) ∧ kvs.length < sizeLine ∧ Nx (upd H5 D (.dK (putK kvs k z))) else Nx H3) := by
  refine dc_y Y (fun done H => Same H1 H ∧ ∃ kvs, H D = some (.dK kvs) ∧ Paired (fun a p => p.1 = kf a ∧ VP a p.2 H) (done.filter keep) kvs) ⟨same_new _ hD, [], upd_same, .nil⟩ (fun _ _ H _ p => hI H p.1) (fun done a rest x H H' e p s q => ?_) fun H p => ?_
  · obtain ⟨p1, kvs, p2, p3⟩ := p
    have hlen : items.length = done.length + (rest.length + 1) := by rw [e, List.length_append, List.length_cons]
    have hk : kvs.map (·.1) = (done.filter keep).map kf := paired_keys (fun a p z => z.1) p3
    have sz : kvs.length < sizeLine := by
      have h1 := List.length_filter_le keep done
      have h2 := Paired.length p3
      exact small1000 (by omega)
    refine hs a x H' (by rw [e]; simp) (p1.trans s) q (fun y z H5 => ∃ kvs k, y = kV k ∧ H5 D = some (.dK kvs) ∧ kvs.length < sizeLine ∧ _) _ (fun hb v H4 hv r4 => ?_) fun hb H4 r4 => ?_
    · have hD4 : H4 D = some (.dK kvs) := r4 _ _ (s _ _ p2)
      have out : kf a ∉ kvs.map (·.1) := by
        rw [hk]
        intro hm
        obtain ⟨c, hc, ec⟩ := List.mem_map.mp hm
        rw [e, List.map_append, List.map_cons] at hn
        have := (List.nodup_append.mp hn).2.2 (kf c) (List.mem_map_of_mem (List.mem_filter.mp hc).1) (kf a) List.mem_cons_self
        exact this ec
      have kp : ∀ b o, b ≠ D → H4 b = some o → (upd H4 D (.dK (kvs ++ [(kf a, v)]))) b = some o := fun b o hb eo => by rw [upd_ne hb]; exact eo
      refine ⟨kvs, kf a, rfl, hD4, sz, ?_⟩
      rw [putK_new v (valV_out out)]
      refine ⟨fun b o eo => ?_, _, upd_same, ?_⟩
      · exact kp b o (ne_of_none eo hD) (r4 _ _ (s _ _ (p1 _ _ eo)))
      · have ef : [a].filter keep = [a] := by rw [List.filter_cons, if_pos hb]; rfl
        rw [List.filter_append, ef]
        refine paired_snoc ⟨rfl, hV _ _ _ _ _ hD4 hv kp⟩ (L2.Paired.mapP p3 fun b p z => ⟨z.1, hV _ _ _ _ _ p2 z.2 fun c o hc ec => kp c o hc (r4 _ _ (s _ _ ec))⟩)
    · have ef : [a].filter keep = [] := by rw [List.filter_cons, if_neg (by rw [hb]; exact Bool.false_ne_true)]; rfl
      refine ⟨(p1.trans s).trans r4, kvs, r4 _ _ (s _ _ p2), ?_⟩
      rw [List.filter_append, ef, List.append_nil]
      exact L2.Paired.mapP p3 fun b p z => ⟨z.1, hV _ _ _ _ _ p2 z.2 fun c o _ ec => r4 _ _ (s _ _ ec)⟩
  · obtain ⟨p1, kvs, p2, p3⟩ := p
    exact hd H kvs p1 p2 p3
end

/-! ### name = {..} on one line, the name a local -/
section
variable {X : Cx}
theorem sw_dict {kx vx : Expr} {gs : List Comprehension} {scope : Scope} {pos py : Pos} {y : Str} {l : Nat} {env : Env} (hk : env.scope.kind = .function) (hy : env.scope.names.lookup y = some .local) (hl : (py.line == pos.line) = true)
    (ha : (scope.names.any fun (n, k) => n == y && (k == .local || k == .cell)) = false) : swapsWith (.DictComp kx vx gs scope pos) (some (.Name y py)) l env = pure true := by
  have e1 : env.kindOf y = some .local := hy
  have e2 : env.blockKind = .function := by unfold Env.blockKind; rw [hk] <;> rfl
  unfold swapsWith
  simp only [e2, e1, ha, Expr.pos, hl]
  rfl
theorem ps_setDc {i : Nat} {y : Str} {py : Pos} {kx vx tg iter : Expr} {ifs : List Expr} {scope : Scope} {own : List (Str × Nat)} {pos spos : Pos} {wi : TI} {g : TG} {tt : TT} {tk tv : TE} (hc : X.calm = true) (hN : X.N.Nodup) (hy : X.N[i]? = some y) (hyl : X.env.scope.names.lookup y = some .local)
    (hsw : swapsWith (.DictComp kx vx [⟨tg, iter, ifs, 0⟩] scope pos) (some (.Name y py)) spos.line X.env = pure true) (hi : PI X tg iter wi) (ok : BlkOk X.N X.env.scope scope own)
    (hg : ∀ (s : Shared) (H : Hp) (C : Addr) (cl : List (Str × Addr)) (fp : List Addr), PG (X.blk s H scope (compEnvC scope cl C X.env) fp) tg g)
    (ht : ∀ (s : Shared) (H : Hp) (C : Addr) (cl : List (Str × Addr)) (fp : List Addr), PTs (X.blk s H scope (compEnvC scope cl C X.env) fp) ifs tt)
    (hk : ∀ (s : Shared) (H : Hp) (C : Addr) (cl : List (Str × Addr)) (fp : List Addr), PE (X.blk s H scope (compEnvC scope cl C X.env) fp) kx tk)
    (he : ∀ (s : Shared) (H : Hp) (C : Addr) (cl : List (Str × Addr)) (fp : List Addr), PE (X.blk s H scope (compEnvC scope cl C X.env) fp) vx tv)
    (hs : ∀ x, foldedSetIterable iter X.env x = pure x := by intro _; rfl) :
    PS X (.Assign [.Name y py] (.DictComp kx vx [⟨tg, iter, ifs, 0⟩] scope pos) spos) (tAsg (tDc wi g tt tk tv (own.map (·.2))) (gName i)) := by
  refine ⟨fun pins s σ H D I h => ?_⟩
  rw [exec_Assign_Name_used _ _ _ _ hsw]
  refine wpAny_bind (wpAny_standAt (wpAny_bind ?_))
  have h : tDc wi g tt tk tv (own.map (·.2)) σ H (fun x H1 => gName i x σ H1 D.nx) := h
  show wpAny _ X.A (do
    let _ ← comprehension (.DictComp kx vx [⟨tg, iter, ifs, 0⟩] scope pos) scope X.env _ newDict false (eval iter X.env) (some (assign (.Name y py) X.env))) _ _ s
  refine wpAny_bind (thn (dc_core (Qf := fun _ s' => SP X pins D .next s') hc hN I hi ok hg ht hk he hs h fun L C s' m H' I' q hn f => ?_) fun _ s' hq => wpAny_pure (wpAny_pure hq))
  show wpAny _ _ (assign (.Name y py) X.env (.ref L)) _ _ _
  refine wpAny_assign_Name (store_ok2 (v := V.ref L) I' hN hy (.inl hyl) rfl (fun s2 I2 z => ?_) (.inr hyl))
  obtain ⟨a, sb, ha⟩ := z
  obtain ⟨f0, f1, f2, f3, f4, f5⟩ := f
  have apart : C ≠ a := by
    rcases ha with z | z
    · rw [z]; exact f1
    · exact fun e => f4 y a z e.symm
  exact ⟨m, hn.sameBut sb apart, fun h3 sb3 => ⟨_, H', I2.turned (t' := s2.toks) (fun b o hb e => (sb3.2 b hb).trans e) f0 f1 f3 f4 f5, q⟩⟩
end
end IdW
end
section
set_option maxRecDepth 100000
/-! The walks, 1: literals, clauses, lots of names. -/
namespace IdW
open PySem PySem.Spec PyProof.Rows L2 IdR RZ
def top (i : Nat) : Stmt := PySem.Challenge.pw_idleclauses_k17_whole_matchings.main.body.getD i (.Pass ⟨0, 0, 0, 0⟩)

/-! ### built-in names -/
theorem b_isinstance : bootBuiltins "isinstance" = some (.builtin "isinstance") := by decide +kernel
theorem b_int : bootBuiltins "int" = some (.type "int") := by decide +kernel
theorem b_bool : bootBuiltins "bool" = some (.type "bool") := by decide +kernel
theorem b_tuple : bootBuiltins "tuple" = some (.type "tuple") := by decide +kernel
theorem b_dict : bootBuiltins "dict" = some (.type "dict") := by decide +kernel
theorem b_list : bootBuiltins "list" = some (.type "list") := by decide +kernel
theorem b_all : bootBuiltins "all" = some (.builtin "all") := by decide +kernel
theorem b_abs : bootBuiltins "abs" = some (.builtin "abs") := by decide +kernel
theorem b_sorted : bootBuiltins "sorted" = some (.builtin "sorted") := by decide +kernel
theorem b_len : bootBuiltins "len" = some (.builtin "len") := by decide +kernel
theorem b_repr : bootBuiltins "repr" = some (.builtin "repr") := by decide +kernel
theorem b_min : bootBuiltins "min" = some (.builtin "min") := by decide +kernel
theorem b_max : bootBuiltins "max" = some (.builtin "max") := by decide +kernel
/-- the built-in names that the text uses are no names of the module -/
structure Glo (mg : Str → Option Value) : Prop where
  isinstance : mg "isinstance" = none
  int : mg "int" = none
  bool : mg "bool" = none
  tuple : mg "tuple" = none
  dict : mg "dict" = none
  list : mg "list" = none
  all : mg "all" = none
  abs : mg "abs" = none
  sorted : mg "sorted" = none
  len : mg "len" = none
  repr : mg "repr" = none
  min : mg "min" = none
  max : mg "max" = none
  zip : mg "zip" = none
  enumerate : mg "enumerate" = none
  range : mg "range" = none
  mostN : ∃ t, mg "MOST_NAMES" = some (.int 7 t)
  mostC : ∃ t, mg "MOST_CLAUSES" = some (.int 16 t)

/-! ### defs, by name -/
section
variable (P : Program) (w : World) (K : PySem.W.Frag) (mg : Str → Option Value) (base : Heap)
structure Cal (k : Nat) (x : Str) (sp : Sp) : Prop where
  ex : ∃ (f : Addr) (fd : FuncData) (ps : List Str), FnOk P w K mg base CX0 k f fd ps sp ∧ mg x = some (.ref f) ∧ PySem.W.keepIn K (.ref f) = true ∧ Binds K fd ps []
structure Def (x : Str) (st : Stmt) (ps : List Str) : Prop where
  ex : ∃ (f : Addr) (fd : FuncData), Fun K x x st f fd ∧ mg x = some (.ref f) ∧ Binds K fd ps []
end
section
variable {P : Program} {w : World} {K : PySem.W.Frag} {mg : Str → Option Value} {base : Heap}
theorem Cal.mono {j k : Nat} {x : Str} {sp : Sp} (c : Cal P w K mg base j x sp) (h : j ≤ k) : Cal P w K mg base k x sp :=
  let ⟨f, fd, ps, F, r⟩ := c.ex
  ⟨f, fd, ps, F.mono h, r⟩
theorem cal {x : Str} {st : Stmt} {N ps : List Str} {k : Nat} {sp : Sp} (D : Def K mg x st ps) (S : FnScope N ps (defScope st)) (len : ∀ vs H Q E, sp vs H Q E → vs.length = ps.length)
    (walk : ∀ (f : Addr) (cdv : Value) (A : Around) (outer : List Env) (s : Shared) (H : Hp) (vs : List V) (Q : VK) (E : XK), Room k (A.deeper (envOfC x (defScope st) s.heap.objs.size f cdv)) → sp vs H Q E →
      ∃ t, PSs (cxOf CX0 P w K mg base N x (defScope st) f cdv A outer s H E).nox (defBody st) t ∧ t { nx := fun _ H' => Q .non H', rt := Q } (start N vs) H) : Cal P w K mg base (k + 1) x sp := by
  obtain ⟨f, fd, F, m, b⟩ := D.ex
  exact ⟨f, fd, ps, F.ok S len (walk f), m, F.kp, b⟩
end
section
variable {X : Cx} {k j : Nat} {x : Str} {sp : Sp} {p pos : Pos} {e : Expr} {es : List Expr} {t : TA}
theorem pe_c (c : Cal X.prog X.w X.K X.mg X.base k x sp) (hr : Room j X.A) (ha : PA X (e :: es) t) (hk : k ≤ j := by decide) (hg : Gl X x := by rfl)
    (hdb : (x == ("__debug__" : Str)) = false := by decide) (he : starEach (e :: es) X.env = (false, eval e X.env) :: starEach es X.env := by rfl) (hpl : (backTo pos (starEach es X.env)).any (·.1) = false := by rfl) :
    PE X (.Call (.Name x p) (e :: es) [] pos) (tCall sp [] E0 t) := by
  obtain ⟨f, fd, ps, F, hm, kp, b⟩ := c.ex
  exact pe_call F (hr.mono hk) hg hm kp b .nil pass0 ha hdb he hpl
end
end IdW
namespace IdW
open PySem PySem.Spec PyProof.Rows L2 IdR RZ
section
variable {P : Program} {w : World} {K : PySem.W.Frag} {mg : Str → Option Value} {base : Heap}
abbrev sInt : Stmt := top 1
theorem scInt : FnScope ["thing"] ["thing"] (defScope sInt) := ⟨rfl, rfl, rfl, by decide +kernel, rfl, by decide +kernel, by decide +kernel⟩
def spInt : Sp := fun vs H Q _ => ∃ i : Int, vs = [.int i] ∧ Q (.bl true) H
theorem k_int_int : PySem.W.kitOne K (.type "int") (.type "int") = some true := kit_ty (by decide +kernel)
theorem k_int_bool : PySem.W.kitOne K (.type "int") (.type "bool") = some false := kit_ty (by decide +kernel)
theorem k_tup_tup : PySem.W.kitOne K (.type "tuple") (.type "tuple") = some true := kit_ty (by decide +kernel)
theorem ok_int (G : Glo mg) (D : Def K mg "is_integer" sInt ["thing"]) : Cal P w K mg base 1 "is_integer" spInt := by
  refine cal D scInt (fun vs H Q E h => ?_) (fun f cdv A outer s H vs Q E hr h => ?_)
  · obtain ⟨i, rfl, _⟩ := h
    rfl
  obtain ⟨i, rfl, q⟩ := h
  refine ⟨_, pss_one (ps_ret (pe_and (pe_callB call_isi (by rfl) G.isinstance b_isinstance (pa_cons (pv 0) (pa_cons (pe_bltn (v := .ty "int") (by rfl) G.int b_int rfl) pa_nil)))
    (pe_one (pe_not (pe_callB call_isi (by rfl) G.isinstance b_isinstance (pa_cons (pv 0) (pa_cons (pe_bltn (v := .ty "bool") (by rfl) G.bool b_bool rfl) pa_nil))))))), ?_⟩
  refine ⟨_, rfl, _, _, _, _, _, rfl, .ty "int", .base (.int i), k_int_int, _, rfl, iteT ?_⟩
  exact ⟨_, rfl, _, _, _, _, _, rfl, .ty "bool", .base (.int i), k_int_bool, _, rfl, q⟩
end
end IdW
end
section
set_option maxRecDepth 100000
namespace IdW
open PySem PySem.Spec PyProof.Rows L2 IdR RZ
section
variable {P : Program} {w : World} {K : PySem.W.Frag} {mg : Str → Option Value} {base : Heap}
theorem yes {σ : L2.St} {H : Hp} {A B : Hp → Prop} (h : A H) : tYes σ H fun b H3 => if b = true then A H3 else B H3 := by
  show if true = true then A H else B H
  exact iteT h
theorem qbl {Q : VK} {c : Prop} [Decidable c] {H : Hp} (h : c) (q : Q (.bl true) H) : Q (.bl (decide c)) H := by
  rw [decide_eq_true h]
  exact q
abbrev sBetween : Stmt := top 2
theorem scBetween : FnScope ["thing", "least", "most"] ["thing", "least", "most"] (defScope sBetween) := ⟨rfl, rfl, rfl, by decide +kernel, rfl, by decide +kernel, by decide +kernel⟩
def spBetween : Sp := fun vs H Q _ => ∃ i a b : Int, vs = [.int i, .int a, .int b] ∧ a ≤ i ∧ i ≤ b ∧ Q (.bl true) H
theorem ok_between (G : Glo mg) (cInt : Cal P w K mg base 1 "is_integer" spInt) (D : Def K mg "is_between" sBetween ["thing", "least", "most"]) : Cal P w K mg base 2 "is_between" spBetween := by
  refine cal D scBetween (fun vs H Q E h => ?_) (fun f cdv A outer s H vs Q E hr h => ?_)
  · obtain ⟨i, a, b, rfl, _⟩ := h
    rfl
  obtain ⟨i, a, b, rfl, h1, h2, q⟩ := h
  refine ⟨_, pss_one (ps_ret (pe_and (pe_c cInt hr (pa_cons (pv 0) pa_nil)) (pe_one (pe_chain op_le op_le (pv 1) (pv 0) (pv 2))))), ?_⟩
  refine ⟨_, rfl, i, rfl, _, rfl, iteT ?_⟩
  refine ⟨_, rfl, _, rfl, _, _, rfl, rfl, _, rfl, ?_⟩
  rw [decide_eq_true h1]
  refine iteT ⟨_, rfl, _, _, rfl, rfl, ?_⟩
  exact qbl h2 q

/-! are_rising, of a list or a tuple of ints that ascend -/
theorem cut1 (xs : List V) : cutV xs (some 1) none = xs.drop 1 := by
  unfold cutV
  have e1 : HT.sIx xs.length 0 (some 1) = min 1 xs.length := HT.sIx_nat xs.length 0 1
  rw [e1, HT.sIx_none, List.take_of_length_le (by rw [List.length_drop]; omega)]
  cases xs with
  | nil => rfl
  | cons a r =>
    have : min 1 (a :: r).length = 1 := by rw [List.length_cons]; omega
    rw [this]
theorem cut_all {xs : List V} {lo hi : Option Int} (h : HT.sIx xs.length 0 lo = 0 ∧ HT.sIx xs.length xs.length hi = xs.length) : cutV xs lo hi = xs := by
  unfold cutV
  rw [h.1, h.2]
  simp
def rSlB (K : PySem.W.Frag) : V → Option Int → Option Int → Hp → VK → Prop := fun x lo hi H Q => ∃ a xs, x = .ref a ∧ SqT K H a xs ∧ ∀ p H', Same H H' → SqT K H' p (cutV xs lo hi) → Q (.ref p) H'
theorem sl_tupB {X : Cx} : SlR X (rSlB X.K) := by
  intro pins s σ H x v vl vu lo hi sl Q I rx hs pl pu h
  obtain ⟨a, xs, e, hx, q⟩ := h
  exact sl_tupA pins s σ H x v vl vu lo hi sl Q I rx hs pl pu ⟨a, xs, e, hx, fun z => q a H (Same.refl H) (by rw [cut_all z]; exact hx), fun _ p hp => q p _ (same_new _ hp) (SqT.of upd_same)⟩
abbrev sRising : Stmt := top 3
theorem scRising : FnScope ["some", "one", "other"] ["some"] (defScope sRising) := ⟨rfl, rfl, rfl, by decide +kernel, rfl, by decide +kernel, by decide +kernel⟩
def Asc (ns : List Int) : Prop := ns.Pairwise (· < ·)
def spRising (K : PySem.W.Frag) : Sp := fun vs H Q _ => ∃ (a : Addr) (ns : List Int), vs = [.ref a] ∧ (SqL K H a (ns.map V.int) ∨ SqT K H a (ns.map V.int)) ∧ ns.Pairwise (· < ·) ∧ ns.length ≤ 1000 ∧ ∀ H', Same H H' → Q (.bl true) H'
theorem zip_map (ns : List Int) : (ns.map V.int).zip ((ns.map V.int).drop 1) = (ns.zip (ns.drop 1)).map fun p => (V.int p.1, V.int p.2) := by
  rw [← List.map_drop, List.zip_map]
  rfl
theorem zip_asc : ∀ {ns : List Int}, ns.Pairwise (· < ·) → ∀ p ∈ ns.zip (ns.drop 1), p.1 < p.2
  | [], _, p, hp => by simp at hp
  | [a], _, p, hp => by simp at hp
  | a :: b :: r, h, p, hp => by
    obtain ⟨h1, h2⟩ := List.pairwise_cons.mp h
    have hp : p ∈ (a, b) :: (b :: r).zip r := hp
    rcases List.mem_cons.mp hp with e | hp
    · rw [e]; exact h1 b (by simp)
    · exact zip_asc h2 p hp
theorem ok_rising (G : Glo mg) (D : Def K mg "are_rising" sRising ["some"]) : Cal P w K mg base 1 "are_rising" (spRising K) := by
  refine cal D scRising (fun vs H Q E h => ?_) (fun f cdv A outer s H vs Q E hr h => ?_)
  · obtain ⟨a, ns, rfl, _⟩ := h
    rfl
  obtain ⟨a, ns, rfl, h1, h2, hz, q⟩ := h
  have ez : ((ns.map V.int).zip ((ns.map V.int).drop 1)) = (ns.zip (ns.drop 1)).map fun p => (V.int p.1, V.int p.2) := zip_map ns
  have lz : (ns.zip (ns.drop 1)).length ≤ 1000 := by rw [List.length_zip, List.length_drop]; omega
  have fin : ∀ (H1 H2 : Hp) (D : Addr), Same H H1 → Same H1 H2 → H2 D = some (.lst ((ns.zip (ns.drop 1)).map fun _ => V.bl true)) → ∃ (a : Addr) (bs : List Bool), [V.ref D] = [V.ref a] ∧ SqL K H2 a (bs.map V.bl) ∧ Q (.bl (bs.all id)) H2 := fun H1 H2 D s1 s2 e => by
    refine ⟨D, (ns.zip (ns.drop 1)).map fun _ => true, rfl, by rw [List.map_map]; exact SqL.of e, ?_⟩
    have : ((ns.zip (ns.drop 1)).map fun _ => true).all id = true := List.all_eq_true.mpr fun b hb => by
      obtain ⟨_, _, e⟩ := List.mem_map.mp hb
      rw [← e]; rfl
    rw [this]
    exact q H2 (s1.trans s2)
  rcases h1 with h1 | h1
  · refine ⟨_, pss_one (ps_ret (pe_callB (cr_all rfl) (by rfl) G.all b_all (pa_cons
      (pe_lc (own := [("one", 1), ("other", 2)]) (g := gTup K 2 (gCons (gName 1) (gCons (gName 2) gNil))) (tt := tYes) rfl scRising.nd (pi_zipA (by rfl) G.zip (pa_cons (pv 0) (pa_cons (pe_slice sl_list (pv 0) (po_some pe_int) po_none) pa_nil))) (blkOk_by (N := ["some", "one", "other"]) (sc := defScope sRising) (by decide +kernel))
        (fun _ _ _ _ _ => pg_tup rfl (pgs_cons (pg_name (i := 1) scRising.nd rfl (Or.inl rfl) (Or.inr rfl)) (pgs_cons (pg_name (i := 2) scRising.nd rfl (Or.inl rfl) (Or.inr rfl)) pgs_nil))) (fun _ _ _ _ _ => pts_nil)
        (fun _ _ _ _ _ => pe_cmpR op_lt (pv 1) (pv 2) (nomark _))) pa_nil))), ?_⟩
    refine ⟨_, rfl, _, rfl, _, rfl, a, _, rfl, h1, fun p hp => ?_⟩
    have s1 := same_new (.lst (cutV (ns.map V.int) (some 1) none)) hp
    refine ⟨a, p, ns.map V.int, (ns.map V.int).drop 1, rfl, .inl ⟨s1.seq h1, SqL.of (by rw [upd_same, cut1]), fun D hD => ?_⟩⟩
    have Y := y_zipL (K := K) (a := a) (b := p) (xs := ns.map V.int) (ys := (ns.map V.int).drop 1)
    rw [ez] at Y
    refine lc_map Y.map hD (fun H2 s2 => ⟨s2.seq (s1.seq h1), SqL.of (s2 _ _ (by rw [upd_same, cut1]))⟩) (fun _ => .bl true) lz (fun pr x H2 hm s2 hx R R' hR => ?_) fun H2 s2 e => fin _ H2 D s1 s2 e
    obtain ⟨T, rfl, hT⟩ := hx
    refine ⟨T, _, rfl, SqT.of hT, rfl, _, _, rfl, _, _, rfl, rfl, rfl, yes ⟨_, rfl, _, rfl, _, _, rfl, rfl, ?_⟩⟩
    exact qbl (zip_asc h2 pr hm) (hR H2 (Same.refl _))
  · refine ⟨_, pss_one (ps_ret (pe_callB (cr_all rfl) (by rfl) G.all b_all (pa_cons
      (pe_lc (own := [("one", 1), ("other", 2)]) (g := gTup K 2 (gCons (gName 1) (gCons (gName 2) gNil))) (tt := tYes) rfl scRising.nd (pi_zipA (by rfl) G.zip (pa_cons (pv 0) (pa_cons (pe_slice sl_tupB (pv 0) (po_some pe_int) po_none) pa_nil))) (blkOk_by (N := ["some", "one", "other"]) (sc := defScope sRising) (by decide +kernel))
        (fun _ _ _ _ _ => pg_tup rfl (pgs_cons (pg_name (i := 1) scRising.nd rfl (Or.inl rfl) (Or.inr rfl)) (pgs_cons (pg_name (i := 2) scRising.nd rfl (Or.inl rfl) (Or.inr rfl)) pgs_nil))) (fun _ _ _ _ _ => pts_nil)
        (fun _ _ _ _ _ => pe_cmpR op_lt (pv 1) (pv 2) (nomark _))) pa_nil))), ?_⟩
    refine ⟨_, rfl, _, rfl, _, rfl, a, _, rfl, h1, fun p H1 s1 hp => ?_⟩
    rw [cut1] at hp
    refine ⟨a, p, ns.map V.int, (ns.map V.int).drop 1, rfl, .inr ⟨Same.tup s1 h1, hp, fun D hD => ?_⟩⟩
    have Y := y_zipT (K := K) (a := a) (b := p) (xs := ns.map V.int) (ys := (ns.map V.int).drop 1)
    rw [ez] at Y
    refine lc_map Y.map hD (fun H2 s2 => ⟨Same.tup s2 (Same.tup s1 h1), Same.tup s2 hp⟩) (fun _ => .bl true) lz (fun pr x H2 hm s2 hx R R' hR => ?_) fun H2 s2 e => fin _ H2 D s1 s2 e
    obtain ⟨T, rfl, hT⟩ := hx
    refine ⟨T, _, rfl, SqT.of hT, rfl, _, _, rfl, _, _, rfl, rfl, rfl, yes ⟨_, rfl, _, rfl, _, _, rfl, rfl, ?_⟩⟩
    exact qbl (zip_asc h2 pr hm) (hR H2 (Same.refl _))
end
end IdW
end
section
set_option maxRecDepth 100000
namespace IdW
open PySem PySem.Spec PyProof.Rows L2 IdR RZ
/-! ### sorted pairs -/
def LeP (p q : Int × Int) : Prop := SrtO.lexB q p = false
theorem LeP.iff {p q : Int × Int} : LeP p q ↔ p.1 < q.1 ∨ (p.1 = q.1 ∧ p.2 ≤ q.2) := by
  unfold LeP
  rw [← Bool.not_eq_true, SrtO.lexB_iff]
  omega
theorem LeP.anti {p q : Int × Int} (h : LeP p q) (h' : LeP q p) : p = q := by
  rw [LeP.iff] at h h'
  exact Prod.ext (by omega) (by omega)
theorem sort_one {α : Type} {R : α → α → Prop} (ha : ∀ x y, R x y → R y x → x = y) : ∀ {l m : List α}, l.Pairwise R → m.Pairwise R → l.Perm m → l = m
  | [], m, _, _, p => (List.perm_nil.mp p.symm).symm
  | x :: l, [], _, _, p => by simpa using p.length_eq
  | x :: l, y :: m, hl, hm, p => by
    obtain ⟨h1, h2⟩ := List.pairwise_cons.mp hl
    obtain ⟨h3, h4⟩ := List.pairwise_cons.mp hm
    have e : x = y := by
      rcases List.mem_cons.mp (p.mem_iff.mp List.mem_cons_self) with e | hx
      · exact e
      · rcases List.mem_cons.mp (p.mem_iff.mpr List.mem_cons_self) with e | hy
        · exact e.symm
        · exact ha _ _ (h1 _ hy) (h3 _ hx)
    subst e
    rw [sort_one ha h2 h4 ((List.perm_cons x).mp p)]
theorem leP_one {l m : List (Int × Int)} (h1 : l.Pairwise LeP) (h2 : m.Pairwise LeP) (p : l.Perm m) : l = m := sort_one (fun _ _ => LeP.anti) h1 h2 p
def PairAt (H : Hp) (x : V) (p : Int × Int) : Prop := ∃ t, x = .ref t ∧ H t = some (.tup [.int p.1, .int p.2])
abbrev PairsAt (H : Hp) : List V → List (Int × Int) → Prop := Paired (PairAt H)
theorem PairsAt.same {H H' : Hp} (s : Same H H') {xs : List V} {ps : List (Int × Int)} (h : PairsAt H xs ps) : PairsAt H' xs ps := L2.Paired.mapP h fun x p ⟨t, e, q⟩ => ⟨t, e, s _ _ q⟩
section
open Classical
noncomputable def keyOf (H : Hp) (x : V) : Int × Int := if h : ∃ p, PairAt H x p then h.choose else (0, 0)
theorem keyOf_eq {H : Hp} {x : V} {p : Int × Int} (h : PairAt H x p) : keyOf H x = p := by
  have e : ∃ p, PairAt H x p := ⟨p, h⟩
  unfold keyOf
  rw [dif_pos e]
  obtain ⟨t, e1, q1⟩ := e.choose_spec
  obtain ⟨u, e2, q2⟩ := h
  rw [e1] at e2
  cases e2
  rw [q1] at q2
  injection q2 with q2
  injection q2 with q2
  injection q2 with a1 a2
  injection a2 with a2 _
  injection a1 with a1
  injection a2 with a2
  exact Prod.ext a1 a2
end
theorem pairs_map {H : Hp} : ∀ {xs : List V} {ps : List (Int × Int)}, PairsAt H xs ps → xs.map (keyOf H) = ps
  | _, _, .nil => rfl
  | _, _, .cons r t => by rw [List.map_cons, keyOf_eq r, pairs_map t]
theorem pairs_mem {H : Hp} : ∀ {xs : List V} {ps : List (Int × Int)}, PairsAt H xs ps → ∀ x ∈ xs, PairAt H x (keyOf H x)
  | _, _, .cons r t, x, hx => by
    rcases List.mem_cons.mp hx with e | hx
    · rw [e, keyOf_eq r]; exact r
    · exact pairs_mem t x hx
theorem pairs_of {H : Hp} : ∀ {xs : List V}, (∀ x ∈ xs, PairAt H x (keyOf H x)) → PairsAt H xs (xs.map (keyOf H))
  | [], _ => .nil
  | x :: xs, h => .cons (h x List.mem_cons_self) (pairs_of fun y hy => h y (List.mem_cons_of_mem _ hy))
def rSortP (K : PySem.W.Frag) : List V → Hp → VK → Prop := fun vs H Q => ∃ (a : Addr) (xs : List V) (ps : List (Int × Int)), vs = [.ref a] ∧ SqL K H a xs ∧ PairsAt H xs ps ∧
  ∀ (ys : List V) (p : Addr) (qs : List (Int × Int)), qs.Perm ps → qs.Pairwise LeP → PairsAt H ys qs → H p = none → Q (.ref p) (upd H p (.lst ys))
theorem cr_sortP {X : Cx} : CallR X (.builtin "sorted") (rSortP X.K) := by
  intro pins s σ H vs us Q I r h
  obtain ⟨a, xs, ps, e, hq, hp, q⟩ := h
  refine cr_sortedPO pins s σ H vs us Q I r ⟨a, xs, keyOf H, e, hq, fun x hx => pairs_mem hp x hx, fun ys p h1 h2 hn => ?_⟩
  refine q ys p (ys.map (keyOf H)) ?_ (List.pairwise_map.mpr h1) (pairs_of fun x hx => pairs_mem hp x (h2.perm.mem_iff.mp hx)) hn
  rw [← pairs_map hp]
  exact h2.perm.map _

section
variable {P : Program} {w : World} {K : PySem.W.Frag} {mg : Str → Option Value} {base : Heap}
/-! ### is_literal, is_clause -/
def ab (l : Int) : Int := if l < 0 then -l else l
theorem ab_pos {l : Int} (h : 0 ≤ l) : ab l = l := if_neg (by omega)
theorem ab_neg {l : Int} (h : 0 ≤ l) : ab (0 - l) = l := by
  unfold ab
  split <;> omega
def GoodC (n : Int) (c : List Int) : Prop := (∀ l ∈ c, 1 ≤ ab l ∧ ab l ≤ n) ∧ (c.map ab).Pairwise (· < ·)
abbrev sLit : Stmt := top 4
theorem scLit : FnScope ["names", "thing"] ["names", "thing"] (defScope sLit) := ⟨rfl, rfl, rfl, by decide +kernel, rfl, by decide +kernel, by decide +kernel⟩
def spLit : Sp := fun vs H Q _ => ∃ n l : Int, vs = [.int n, .int l] ∧ 1 ≤ ab l ∧ ab l ≤ n ∧ Q (.bl true) H
theorem ok_lit (G : Glo mg) (cInt : Cal P w K mg base 1 "is_integer" spInt) (D : Def K mg "is_literal" sLit ["names", "thing"]) : Cal P w K mg base 2 "is_literal" spLit := by
  refine cal D scLit (fun vs H Q E h => ?_) (fun f cdv A outer s H vs Q E hr h => ?_)
  · obtain ⟨n, l, rfl, _⟩ := h
    rfl
  obtain ⟨n, l, rfl, h1, h2, q⟩ := h
  refine ⟨_, pss_one (ps_ret (pe_and (pe_c cInt hr (pa_cons (pv 1) pa_nil)) (pe_one (pe_chain op_le op_le pe_int (pe_callB call_abs (by rfl) G.abs b_abs (pa_cons (pv 1) pa_nil)) (pv 0))))), ?_⟩
  refine ⟨_, rfl, l, rfl, _, rfl, iteT ?_⟩
  refine ⟨_, rfl, l, rfl, _, _, rfl, rfl, _, rfl, ?_⟩
  have e : decide ((1 : Int) ≤ if l < 0 then -l else l) = true := decide_eq_true h1
  rw [e]
  refine iteT ⟨_, rfl, _, _, rfl, rfl, ?_⟩
  exact qbl (show (if l < 0 then -l else l) ≤ n from h2) q
abbrev sClause : Stmt := top 5
theorem scClause : FnScope ["names", "thing", "literal"] ["names", "thing"] (defScope sClause) := ⟨rfl, rfl, rfl, by decide +kernel, rfl, by decide +kernel, by decide +kernel⟩
def spClause (K : PySem.W.Frag) : Sp := fun vs H Q _ => ∃ (n : Int) (a : Addr) (c : List Int), vs = [.int n, .ref a] ∧ SqT K H a (c.map V.int) ∧ GoodC n c ∧ c.length ≤ 1000 ∧ ∀ H', Same H H' → Q (.bl true) H'
theorem all_true {α : Type} (xs : List α) : ((xs.map fun _ => true).all id) = true := List.all_eq_true.mpr fun b hb => by
  obtain ⟨_, _, e⟩ := List.mem_map.mp hb
  rw [← e]; rfl
theorem bls_true {α : Type} {K : PySem.W.Frag} {H : Hp} {D : Addr} {xs : List α} (e : H D = some (.lst (xs.map fun _ => V.bl true))) : SqL K H D ((xs.map fun _ => true).map V.bl) := by
  rw [List.map_map]; exact SqL.of e
theorem ok_clause (G : Glo mg) (cLit : Cal P w K mg base 2 "is_literal" spLit) (cRis : Cal P w K mg base 1 "are_rising" (spRising K)) (D : Def K mg "is_clause" sClause ["names", "thing"]) : Cal P w K mg base 3 "is_clause" (spClause K) := by
  refine cal D scClause (fun vs H Q E h => ?_) (fun f cdv A outer s H vs Q E hr h => ?_)
  · obtain ⟨n, a, c, rfl, _⟩ := h
    rfl
  obtain ⟨n, a, c, rfl, h1, ⟨h2, h3⟩, hz, q⟩ := h
  refine ⟨_, pss_cons (ps_if (PW.pt (pw_or (pt_not (pt_val (pe_callB call_isi (by rfl) G.isinstance b_isinstance (pa_cons (pv 1) (pa_cons (pe_bltn (v := .ty "tuple") (by rfl) G.tuple b_tuple rfl) pa_nil)))))
      (pw_or1 (pt_not (pt_val (pe_callB (cr_all rfl) (by rfl) G.all b_all (pa_cons
        (pe_lc (own := [("literal", 2)]) (g := gName 2) (tt := tYes) rfl scClause.nd (pi_tup (pv 1)) (blkOk_by (N := ["names", "thing", "literal"]) (sc := defScope sClause) (by decide +kernel))
          (fun _ _ _ _ _ => pg_name (i := 2) scClause.nd rfl (Or.inl rfl) (Or.inr rfl)) (fun _ _ _ _ _ => pts_nil)
          (fun _ _ _ _ _ => pe_c cLit hr (pa_cons (pv 0) (pa_cons (pv 2) pa_nil)))) pa_nil)))))) ) (pss_one (ps_ret pe_bl)) pss_nil)
    (pss_one (ps_ret (pe_c cRis hr (pa_cons
        (pe_lc (own := [("literal", 2)]) (g := gName 2) (tt := tYes) rfl scClause.nd (pi_tup (pv 1)) (blkOk_by (N := ["names", "thing", "literal"]) (sc := defScope sClause) (by decide +kernel))
          (fun _ _ _ _ _ => pg_name (i := 2) scClause.nd rfl (Or.inl rfl) (Or.inr rfl)) (fun _ _ _ _ _ => pts_nil)
          (fun _ _ _ _ _ => pe_callB call_abs (by rfl) G.abs b_abs (pa_cons (pv 2) pa_nil))) pa_nil)))), ?_⟩
  refine ⟨_, rfl, _, _, _, _, _, rfl, .ty "tuple", ty_tup h1, k_tup_tup, _, rfl, iteF ?_⟩
  refine ⟨_, rfl, a, rfl, ⟨_, h1⟩, fun D hD => ?_⟩
  refine lc_map (y_tup (K := K) (a := a) (xs := c.map V.int)).map hD (fun H2 s2 => Same.tup s2 h1) (fun _ => .bl true) hz (fun l x H2 hm s2 hx R R' hR => ?_) fun H2 s2 e => ?_
  · subst hx
    exact ⟨rfl, yes ⟨_, rfl, _, rfl, n, l, rfl, (h2 l hm).1, (h2 l hm).2, hR H2 (Same.refl _)⟩⟩
  refine ⟨D, _, rfl, bls_true e, _, rfl, ?_⟩
  rw [all_true]
  refine iteF ?_
  refine ⟨_, rfl, a, rfl, ⟨_, Same.tup s2 h1⟩, fun D hD => ?_⟩
  refine lc_map (y_tup (K := K) (a := a) (xs := c.map V.int)).map hD (fun H3 s3 => Same.tup s3 (Same.tup s2 h1)) (fun l => .int (ab l)) hz (fun l x H3 hm s3 hx R R' hR => ?_) fun H3 s3 e => ?_
  · subst hx
    exact ⟨rfl, yes ⟨_, rfl, l, rfl, hR H3 (Same.refl _)⟩⟩
  refine ⟨D, c.map ab, rfl, .inl (SqL.of (by rw [e, List.map_map]; rfl)), h3, by rw [List.length_map]; exact hz, fun H4 s4 => q H4 ((s2.trans s3).trans s4)⟩
end
end IdW
end
section
set_option maxRecDepth 100000
namespace IdW
open PySem PySem.Spec PyProof.Rows L2 IdR RZ
section
variable {α β : Type} {J : It} {I : Hp → Prop} {items : List α} {P : α → V → Hp → Prop} {K : PySem.W.Frag}
theorem Yields.paired {R : Hp → V → β → Prop} {ys : List V} {bs : List β} (Y : Yields J I ys (fun v x _ => x = v)) (hR : ∀ H H' v b, Same H H' → R H v b → R H' v b) :
    Yields J (fun H => I H ∧ Paired (R H) ys bs) bs (fun b x H => R H x b) := fun H h => by
  obtain ⟨h1, h2, h3⟩ := Y H h.1
  have e : ys.length = bs.length := Paired.length h.2
  rw [e] at h1 h2 h3
  refine ⟨h1, h2, fun i x H' hi y => ?_⟩
  obtain ⟨s, v, e1, e2⟩ := h3 i x H' hi y
  obtain ⟨b, e3, r⟩ := paired_get h.2 e1
  exact ⟨s, b, e3, by rw [e2]; exact hR _ _ _ _ s r⟩
theorem dc2_y {γ : Type} {g : TG} {wi1 : TI} {g1 : TG} {tk tv : TE} {vs vs1 : List Nat} {σ : L2.St} {H1 : Hp} {D : Addr} {Qd : Hp → Prop} (inner : α → List γ) (P1 : γ → V → Hp → Prop) (Y : Yields J I items P) (Pv : List α → Hp → Prop) (Pw : List α → α → V → List γ → Hp → Prop)
    (h0 : Pv [] (upd H1 D (.dK []))) (hI : ∀ done rest H, items = done ++ rest → Pv done H → I H)
    (hs : ∀ done a rest x H H', items = done ++ a :: rest → Pv done H → Same H H' → P a x H' → ∀ R : L2.St → It → Hp → Prop,
      (∀ σ2 J1 H4 I1, Yields J1 I1 (inner a) P1 → Pw done a x [] H4 → (∀ d1 r1 H, inner a = d1 ++ r1 → Pw done a x d1 H → I1 H) → (∀ H, Pw done a x (inner a) H → Pv (done ++ [a]) H) →
        (∀ d1 b r1 x1 H H', inner a = d1 ++ b :: r1 → Pw done a x d1 H → Same H H' → P1 b x1 H' → g1 x1 (wipe σ2 vs1) H' fun σ3 H5 => wipe σ3 vs1 = wipe σ2 vs1 ∧
          tk σ3 H5 fun y H6 => tv σ3 H6 fun z H7 => ∃ kvs key, y = kV key ∧ H7 D = some (.dK kvs) ∧ kvs.length < sizeLine ∧ Pw done a x (d1 ++ [b]) (upd H7 D (.dK (putK kvs key z)))) → R σ2 J1 H4) →
      g x (wipe σ vs) H' fun σ2 H2 => wipe σ2 vs = wipe σ vs ∧ wi1 σ2 H2 (R σ2))
    (hd : ∀ H, Pv items H → Qd H) :
    ∃ W : Nat → Nat → Hp → Prop, (∃ m, W 0 m (upd H1 D (.dK []))) ∧ ∀ i m H, W i m H →
      (J.stop i H ∧ Qd H) ∨ (J.go i H ∧ ∃ Nx : Hp → Prop, (∀ H', Nx H' → ∃ m', m' < m ∧ W (i + 1) m' H') ∧ ∀ x H', J.yld i H x H' → g x (wipe σ vs) H' fun σ2 H2 => wipe σ2 vs = wipe σ vs ∧
        wi1 σ2 H2 fun J1 H4 => ∃ W1 : Nat → Nat → Hp → Prop, (∃ m, W1 0 m H4) ∧ ∀ j k H, W1 j k H →
          (J1.stop j H ∧ Nx H) ∨ (J1.go j H ∧ ∃ Nx1 : Hp → Prop, (∀ H', Nx1 H' → ∃ k', k' < k ∧ W1 (j + 1) k' H') ∧ ∀ x H', J1.yld j H x H' → g1 x (wipe σ2 vs1) H' fun σ3 H5 => wipe σ3 vs1 = wipe σ2 vs1 ∧
            tk σ3 H5 fun y H6 => tv σ3 H6 fun z H7 => ∃ kvs key, y = kV key ∧ H7 D = some (.dK kvs) ∧ kvs.length < sizeLine ∧ Nx1 (upd H7 D (.dK (putK kvs key z))))) := by
  refine ⟨fun i m H => m = items.length - i ∧ i ≤ items.length ∧ Pv (items.take i) H, ⟨items.length, by simp, Nat.zero_le _, by simpa using h0⟩, ?_⟩
  rintro i m H ⟨rfl, hi, p⟩
  obtain ⟨y1, y2, y3⟩ := Y H (hI _ (items.drop i) H (List.take_append_drop i items).symm p)
  by_cases hlt : i < items.length
  · refine .inr ⟨y1 i hlt, fun H' => Pv (items.take (i + 1)) H', fun H' p' => ⟨items.length - (i + 1), by omega, rfl, hlt, p'⟩, fun x H' y => ?_⟩
    obtain ⟨s, a, e, q⟩ := y3 i x H' hlt y
    have e2 := take_next e
    rw [e2]
    refine hs _ a _ x H H' (split_at e) p s q (fun σ2 J1 H4 => ∃ W1 : Nat → Nat → Hp → Prop, (∃ m, W1 0 m H4) ∧ ∀ j k H, W1 j k H → _) fun σ2 J1 H4 I1 Y1 w0 hI1 hd1 hs1 => ?_
    refine ⟨fun j k H => k = (inner a).length - j ∧ j ≤ (inner a).length ∧ Pw (items.take i) a x ((inner a).take j) H, ⟨(inner a).length, by simp, Nat.zero_le _, by simpa using w0⟩, ?_⟩
    rintro j k H5 ⟨rfl, hj, p5⟩
    obtain ⟨z1, z2, z3⟩ := Y1 H5 (hI1 _ ((inner a).drop j) H5 (List.take_append_drop j _).symm p5)
    by_cases hjt : j < (inner a).length
    · refine .inr ⟨z1 j hjt, fun H' => Pw (items.take i) a x ((inner a).take (j + 1)) H', fun H' p' => ⟨(inner a).length - (j + 1), by omega, rfl, hjt, p'⟩, fun x' H6 y' => ?_⟩
      obtain ⟨s6, b, e6, q6⟩ := z3 j x' H6 hjt y'
      have e7 := take_next e6
      rw [e7]
      exact hs1 _ b _ x' H5 H6 (split_at e6) p5 s6 q6
    · have e : j = (inner a).length := by omega
      subst e
      rw [List.take_length] at p5
      exact .inl ⟨z2, hd1 _ p5⟩
  · have e : i = items.length := by omega
    subst e
    rw [List.take_length] at p
    exact .inl ⟨y2, hd H p⟩
theorem put_keysK {κ : Type} [DecidableEq κ] (kvs : List (κ × V)) (k : κ) (v : V) : (putK kvs k v).map (·.1) = if k ∈ kvs.map (·.1) then kvs.map (·.1) else kvs.map (·.1) ++ [k] := by
  unfold putK
  by_cases h : k ∈ kvs.map (·.1)
  · rw [if_pos h, if_pos (by
      obtain ⟨p, hp, e⟩ := List.mem_map.mp h
      exact List.any_eq_true.mpr ⟨p, hp, decide_eq_true e⟩), List.map_map]
    refine List.map_congr_left fun p _ => ?_
    show (if p.1 = k then (p.1, v) else p).1 = p.1
    split <;> rfl
  · rw [if_neg h, if_neg (fun z => h (by
      obtain ⟨p, hp, e⟩ := List.any_eq_true.mp z
      exact List.mem_map.mpr ⟨p, hp, of_decide_eq_true e⟩)), List.map_append]
    rfl
end
section
variable {P : Program} {w : World} {K : PySem.W.Frag} {mg : Str → Option Value} {base : Heap}
/-! ### by_names -/
theorem ixt {X : Cx} (K : PySem.W.Frag) (h : X.K = K := by rfl) : IxR X (rIxT K) := by
  subst h
  exact ix_tup
abbrev sBy : Stmt := top 6
theorem scBy : FnScope ["literals", "literal", "pair"] ["literals"] (defScope sBy) := ⟨rfl, rfl, rfl, by decide +kernel, rfl, by decide +kernel, by decide +kernel⟩
def pairsOf (c : List Int) : List (Int × Int) := c.map fun l => (ab l, l)
def spBy (K : PySem.W.Frag) : Sp := fun vs H Q _ => ∃ (a : Addr) (c : List Int), vs = [.ref a] ∧ SqL K H a (c.map V.int) ∧ c.length ≤ 1000 ∧
  ∀ H' p (qs : List (Int × Int)), Same H H' → qs.Perm (pairsOf c) → qs.Pairwise LeP → H' p = some (.tup (qs.map fun q => V.int q.2)) → Q (.ref p) H'
theorem pair_keeps {l : Int × Int} {v : V} {H H' : Hp} {D : Addr} {o : HO} (hD : H D = some o) (hn : ∀ xs, o ≠ .tup xs) (h : PairAt H v l) (k : ∀ b o, b ≠ D → H b = some o → H' b = some o) : PairAt H' v l := by
  obtain ⟨t, e, q⟩ := h
  exact ⟨t, e, k _ _ (ne_of q hD fun z => hn _ z.symm) q⟩
theorem ok_by (G : Glo mg) (D : Def K mg "by_names" sBy ["literals"]) : Cal P w K mg base 1 "by_names" (spBy K) := by
  refine cal D scBy (fun vs H Q E h => ?_) (fun f cdv A outer s H vs Q E hr h => ?_)
  · obtain ⟨a, c, rfl, _⟩ := h
    rfl
  obtain ⟨a, c, rfl, h1, hz, q⟩ := h
  refine ⟨_, pss_one (ps_ret (pe_callTy call_tuple_of (by rfl) G.tuple b_tuple (pa_cons
    (pe_lc (own := [("pair", 2)]) (g := gName 2) (tt := tYes) rfl scBy.nd (pi_list (pe_callB cr_sortP (by rfl) G.sorted b_sorted (pa_cons
        (pe_lc (own := [("literal", 1)]) (g := gName 1) (tt := tYes) rfl scBy.nd (pi_list (pv 0)) (blkOk_by (N := ["literals", "literal", "pair"]) (sc := defScope sBy) (by decide +kernel))
          (fun _ _ _ _ _ => pg_name (i := 1) scBy.nd rfl (Or.inl rfl) (Or.inr rfl)) (fun _ _ _ _ _ => pts_nil)
          (fun _ _ _ _ _ => pe_tup (pa_cons (pe_callB call_abs (by rfl) G.abs b_abs (pa_cons (pv 1) pa_nil)) (pa_cons (pv 1) pa_nil)))) pa_nil)))
      (blkOk_by (N := ["literals", "literal", "pair"]) (sc := defScope sBy) (by decide +kernel))
      (fun _ _ _ _ _ => pg_name (i := 2) scBy.nd rfl (Or.inl rfl) (Or.inr rfl)) (fun _ _ _ _ _ => pts_nil)
      (fun _ _ _ _ _ => pe_ix (ixt K) (pv 2) pe_int (fun _ _ => rfl))) pa_nil))), ?_⟩
  refine ⟨_, rfl, a, rfl, ⟨_, h1⟩, fun D hD => ?_⟩
  refine lc_rel (y_list (K := K) (a := a) (xs := c.map V.int)).map hD (fun H2 s2 => s2.seq h1) (fun _ => true) hz (fun l v H => PairAt H v (ab l, l)) (fun l v H H' acc e p k => pair_keeps e (fun _ z => by cases z) p k) (fun l x H2 hm s2 hx R R' hR _ => ?_) fun H2 acc s2 e pr => ?_
  · subst hx
    refine ⟨rfl, yes ⟨_, rfl, l, rfl, _, rfl, by show 2 ≤ sizeLine; decide, fun T hT => ?_⟩⟩
    exact hR rfl _ _ ⟨T, rfl, upd_same⟩ (same_new _ hT)
  have ef : c.filter (fun _ => true) = c := List.filter_eq_self.mpr fun _ _ => rfl
  rw [ef] at pr
  have pr2 : PairsAt H2 acc (pairsOf c) := by
    have all : ∀ {c : List Int} {acc : List V}, Paired (fun l v => PairAt H2 v (ab l, l)) c acc → PairsAt H2 acc (pairsOf c) := by
      intro c acc h
      induction h with
      | nil => exact .nil
      | cons r t ih => exact .cons r ih
    exact all pr
  refine ⟨D, acc, pairsOf c, rfl, SqL.of e, pr2, fun ys p qs hp hs hy hn => ?_⟩
  have s3 := same_new (.lst ys) hn
  refine ⟨p, rfl, ⟨_, SqL.of upd_same⟩, fun D2 hD2 => ?_⟩
  have lz : qs.length ≤ 1000 := by rw [hp.length_eq]; unfold pairsOf; rw [List.length_map]; exact hz
  refine lc_map ((y_list (K := K) (a := p) (xs := ys)).paired (R := PairAt) (bs := qs) fun H H' v b s ⟨t, e, r⟩ => ⟨t, e, s _ _ r⟩) hD2 (fun H4 s4 => ⟨s4.seq (SqL.of upd_same), PairsAt.same (s3.trans s4) hy⟩) (fun r => .int r.2) lz (fun r x H4 hm s4 hx R R' hR => ?_) fun H4 s4 e4 => ?_
  · obtain ⟨t, rfl, ht⟩ := hx
    refine ⟨rfl, yes ⟨_, rfl, t, _, _, _, rfl, rfl, SqT.of ht, atI_nat (xs := [V.int r.1, V.int r.2]) (j := 1) rfl, hR H4 (Same.refl _)⟩⟩
  · refine ⟨D2, _, rfl, .inl ⟨SqL.of e4, fun l hl => ?_⟩⟩
    exact q _ l qs (((s2.trans s3).trans s4).trans (same_new _ hl)) hp hs upd_same
end
end IdW
end
section
set_option maxRecDepth 100000
namespace IdW
open PySem PySem.Spec PyProof.Rows L2 IdR RZ
/-- tuples of ints, by their addresses -/
def RowAt (K : PySem.W.Frag) (H : Hp) (x : V) (c : List Int) : Prop := ∃ a, x = .ref a ∧ SqT K H a (c.map V.int)
abbrev RowsAt (K : PySem.W.Frag) (H : Hp) : List V → List (List Int) → Prop := Paired (RowAt K H)
theorem RowAt.same {K : PySem.W.Frag} {H H' : Hp} {x : V} {c : List Int} (s : Same H H') (h : RowAt K H x c) : RowAt K H' x c := let ⟨a, e, q⟩ := h; ⟨a, e, Same.tup s q⟩
theorem RowsAt.same {K : PySem.W.Frag} {H H' : Hp} {xs : List V} {cs : List (List Int)} (s : Same H H') (h : RowsAt K H xs cs) : RowsAt K H' xs cs := L2.Paired.mapP h fun x c r => r.same s
theorem rng7 {xs : List Int} (h : xs.Nodup) (h1 : ∀ x ∈ xs, 1 ≤ x ∧ x ≤ 7) : xs.length ≤ 7 := by
  have := Idle.len_le (ys := [1, 2, 3, 4, 5, 6, 7]) h fun x hx => by
    obtain ⟨a, b⟩ := h1 x hx
    have : x = 1 ∨ x = 2 ∨ x = 3 ∨ x = 4 ∨ x = 5 ∨ x = 6 ∨ x = 7 := by omega
    rcases this with e | e | e | e | e | e | e <;> rw [e] <;> decide
  exact this
section
variable {P : Program} {w : World} {K : PySem.W.Frag} {mg : Str → Option Value} {base : Heap}
abbrev sNamesIn : Stmt := top 7
theorem scNamesIn : FnScope ["clauses", "clause", "literal"] ["clauses"] (defScope sNamesIn) := ⟨rfl, rfl, rfl, by decide +kernel, rfl, by decide +kernel, by decide +kernel⟩
def Named (cs : List (List Int)) (x : Int) : Prop := ∃ c ∈ cs, ∃ l ∈ c, ab l = x
def spNamesIn (K : PySem.W.Frag) : Sp := fun vs H Q _ => ∃ (a : Addr) (xs : List V) (cs : List (List Int)), vs = [.ref a] ∧ SqL K H a xs ∧ RowsAt K H xs cs ∧ (∀ x, Named cs x → 1 ≤ x ∧ x ≤ 7) ∧
  ∀ H' p (ns : List Int), Same H H' → ns.Pairwise (· < ·) → (∀ x, x ∈ ns ↔ Named cs x) → H' p = some (.lst (ns.map V.int)) → Q (.ref p) H'
theorem ok_names_in (G : Glo mg) (D : Def K mg "names_in" sNamesIn ["clauses"]) : Cal P w K mg base 1 "names_in" (spNamesIn K) := by
  refine cal D scNamesIn (fun vs H Q E h => ?_) (fun f cdv A outer s H vs Q E hr h => ?_)
  · obtain ⟨a, xs, cs, rfl, _⟩ := h
    rfl
  obtain ⟨a, xs, cs, rfl, h1, h2, h7, q⟩ := h
  refine ⟨_, pss_one (ps_ret (pe_callB (call_sortedDI rfl) (by rfl) G.sorted b_sorted (pa_cons
    (pe_dc2 (own := [("clause", 1), ("literal", 2)]) (vs1 := [2]) (g := gName 1) (g1 := gName 2) (wi1 := iTup K (tVar 1)) rfl scNamesIn.nd (pi_list (pv 0)) (blkOk_by (N := ["clauses", "clause", "literal"]) (sc := defScope sNamesIn) (by decide +kernel)) (by decide)
      (fun _ _ _ _ _ => pg_name (i := 1) scNamesIn.nd rfl (Or.inl rfl) (Or.inr rfl))
      (fun _ _ _ _ _ => pi_tup (pv 1))
      (fun _ _ _ _ _ => pg_name (i := 2) scNamesIn.nd rfl (Or.inl rfl) (Or.inr rfl))
      (fun _ _ _ _ _ => pe_callB call_abs (by rfl) G.abs b_abs (pa_cons (pv 2) pa_nil))
      (fun _ _ _ _ _ => pe_bl)) pa_nil))), ?_⟩
  refine ⟨_, rfl, a, rfl, ⟨_, h1⟩, fun D hD => ?_⟩
  have seven : ∀ (done : List (List Int)) (d c : List Int) (rest : List (List Int)) (ks : List Int), cs = done ++ c :: rest → (∀ l ∈ d, l ∈ c) → ks.Nodup → (∀ x, x ∈ ks ↔ (Named done x ∨ ∃ l ∈ d, ab l = x)) → ks.length ≤ 7 := fun done d c rest ks e hd hn hk =>
    rng7 hn fun x hx => h7 x (by
      rcases (hk x).mp hx with ⟨c', hc, l, hl, el⟩ | ⟨l, hl, el⟩
      · exact ⟨c', by rw [e]; exact List.mem_append_left _ hc, l, hl, el⟩
      · exact ⟨c, by rw [e]; simp, l, hd l hl, el⟩)
  refine dc2_y (fun c : List Int => c) (fun l x _ => x = .int l) ((y_list (K := K) (a := a) (xs := xs)).paired (R := RowAt K) (bs := cs) fun H H' v b s r => r.same s)
    (fun done H2 => Same H H2 ∧ ∃ (kvs : List (Key × V)) (ks : List Int), H2 D = some (.dK kvs) ∧ kvs.map (·.1) = ks.map Sum.inl ∧ ks.Nodup ∧ ∀ x, x ∈ ks ↔ Named done x)
    (fun done c y d H2 => Same H H2 ∧ (cs ≠ [] → ∃ rest, cs = done ++ c :: rest) ∧ RowAt K H2 y c ∧ ∃ (kvs : List (Key × V)) (ks : List Int), H2 D = some (.dK kvs) ∧ kvs.map (·.1) = ks.map Sum.inl ∧ ks.Nodup ∧ ∀ x, x ∈ ks ↔ (Named done x ∨ ∃ l ∈ d, ab l = x))
    ⟨same_new _ hD, [], [], upd_same, rfl, List.nodup_nil, fun x => ⟨fun z => (nomatch z), fun z => by obtain ⟨_, z, _⟩ := z; cases z⟩⟩ (fun _ _ H2 _ p => ⟨p.1.seq h1, RowsAt.same p.1 h2⟩) (fun done c rest x H2 H3 e p s hx R hR => ?_) fun H2 p => ?_
  · obtain ⟨y, rfl, hy⟩ := hx
    obtain ⟨p1, kvs, ks, p2, p3, p4, p5⟩ := p
    refine ⟨rfl, ?_⟩
    refine ⟨_, rfl, y, rfl, ⟨_, hy⟩, ?_⟩
    refine hR _ _ _ _ (y_tup (K := K) (a := y) (xs := c.map V.int)).map ?_ ?_ ?_ ?_
    · exact ⟨p1.trans s, fun _ => ⟨rest, e⟩, ⟨y, rfl, hy⟩, kvs, ks, s _ _ p2, p3, p4, fun z => by rw [p5]; simp⟩
    · intro d1 r1 H4 _ w
      obtain ⟨_, _, ⟨y', ey, w⟩, _⟩ := w
      cases ey
      exact w
    · intro H4 w
      obtain ⟨w1, _, _, kvs, ks, w2, w3, w4, w5⟩ := w
      refine ⟨w1, kvs, ks, w2, w3, w4, fun z => ?_⟩
      rw [w5]
      constructor
      · rintro (⟨c', hc, l, hl, el⟩ | ⟨l, hl, el⟩)
        · exact ⟨c', List.mem_append_left _ hc, l, hl, el⟩
        · exact ⟨c, by simp, l, hl, el⟩
      · rintro ⟨c', hc, l, hl, el⟩
        rcases List.mem_append.mp hc with hc | hc
        · exact .inl ⟨c', hc, l, hl, el⟩
        · rw [List.mem_singleton.mp hc] at hl
          exact .inr ⟨l, hl, el⟩
    · intro d1 l r1 x1 H4 H5 e1 w s5 hx1
      subst hx1
      obtain ⟨w1, w0, ⟨y', ey, wy⟩, kvs, ks, w2, w3, w4, w5⟩ := w
      cases ey
      refine ⟨rfl, _, rfl, l, rfl, ?_⟩
      have hk : ks.length ≤ 7 := seven done d1 c rest ks e (fun b hb => by rw [e1]; exact List.mem_append_left _ hb) w4 w5
      have hl : kvs.length = ks.length := by
        have := congrArg List.length w3
        rwa [List.length_map, List.length_map] at this
      have hD5 := s5 _ _ w2
      refine ⟨kvs, Sum.inl (ab l), rfl, hD5, small1000 (by omega), fun b o eo => ?_, w0, ⟨y, rfl, ?_⟩, putK kvs (Sum.inl (ab l)) (.bl true), if ab l ∈ ks then ks else ks ++ [ab l], upd_same, ?_, ?_, fun z => ?_⟩
      · rw [upd_ne (ne_of_none eo hD)]; exact s5 _ _ (w1 _ _ eo)
      · have q1 := Same.tup s5 wy
        rcases q1 with (q1 | ⟨o, q1⟩) | q1
        · exact .inl (.inl (by rw [upd_ne (ne_of q1 hD5 fun z => by cases z)]; exact q1))
        · exact .inl (.inr ⟨o, by rw [upd_ne (ne_of q1 hD5 fun z => by cases z)]; exact q1⟩)
        · exact .inr q1
      · rw [put_keysK, w3]
        have em : (Sum.inl (ab l) : Key) ∈ ks.map Sum.inl ↔ ab l ∈ ks := ⟨fun z => by
          obtain ⟨b, hb, eb⟩ := List.mem_map.mp z
          cases eb
          exact hb, fun z => List.mem_map_of_mem z⟩
        by_cases hm : ab l ∈ ks
        · rw [if_pos (em.mpr hm), if_pos hm]
        · rw [if_neg (fun z => hm (em.mp z)), if_neg hm, List.map_append]
          rfl
      · split
        · exact w4
        · exact nd_snoc w4 (by assumption)
      · have := w5 z
        split
        · rename_i hm
          rw [this]
          constructor
          · rintro (h | ⟨b, hb, eb⟩)
            · exact .inl h
            · exact .inr ⟨b, List.mem_append_left _ hb, eb⟩
          · rintro (h | ⟨b, hb, eb⟩)
            · exact .inl h
            · rcases List.mem_append.mp hb with hb | hb
              · exact .inr ⟨b, hb, eb⟩
              · rw [List.mem_singleton.mp hb] at eb
                rw [← eb]
                exact (w5 _).mp hm
        · rw [List.mem_append, this]
          constructor
          · rintro ((h | ⟨b, hb, eb⟩) | h)
            · exact .inl h
            · exact .inr ⟨b, List.mem_append_left _ hb, eb⟩
            · exact .inr ⟨l, by simp, (List.mem_singleton.mp h).symm⟩
          · rintro (h | ⟨b, hb, eb⟩)
            · exact .inl (.inl h)
            · rcases List.mem_append.mp hb with hb | hb
              · exact .inl (.inr ⟨b, hb, eb⟩)
              · rw [List.mem_singleton.mp hb] at eb
                exact .inr (by rw [eb]; simp)
  · obtain ⟨p1, kvs, ks, p2, p3, p4, p5⟩ := p
    have hk : ks.length ≤ 7 := rng7 p4 fun x hx => h7 x ((p5 x).mp hx)
    refine ⟨D, kvs, ks, rfl, .inl p2, p3, by omega, fun ys p hp hs hn => ?_⟩
    refine q _ p ys (p1.trans (same_new _ hn)) (Idle.asc_of hs (hp.nodup_iff.mpr p4)) (fun x => ?_) upd_same
    rw [hp.mem_iff, p5]
end
end IdW
end
section
set_option maxRecDepth 100000
namespace IdW
open PySem PySem.Spec PyProof.Rows L2 IdR RZ
section
variable {P : Program} {w : World} {K : PySem.W.Frag} {mg : Str → Option Value} {base : Heap}
theorem iteB {c : Bool} {A B : Prop} (h : c = false) (b : B) : if c = true then A else B := by
  rw [h]
  exact iteF b
/-- a good bundle -/
structure GoodB (n : Int) (cs : List (List Int)) : Prop where
  n1 : 1 ≤ n
  n7 : n ≤ 7
  len : cs.length ≤ 16
  lit : ∀ c ∈ cs, GoodC n c
  asc : cs.Pairwise (· < ·)
theorem GoodC.len {n : Int} {c : List Int} (h : GoodC n c) (h7 : n ≤ 7) : c.length ≤ 7 := by
  have := rng7 (xs := c.map ab) (Idle.asc_nodup h.2) fun x hx => by
    obtain ⟨l, hl, e⟩ := List.mem_map.mp hx
    have := h.1 l hl
    omega
  rwa [List.length_map] at this
/-- a bundle at b -/
def Bun (K : PySem.W.Frag) (H : Hp) (b : Addr) (n : Int) (cs : List (List Int)) : Prop := ∃ (c : Addr) (xs : List V), SqT K H b [.int n, .ref c] ∧ SqT K H c xs ∧ RowsAt K H xs cs
theorem Bun.same {H H' : Hp} {b : Addr} {n : Int} {cs : List (List Int)} (s : Same H H') (h : Bun K H b n cs) : Bun K H' b n cs := let ⟨c, xs, h1, h2, h3⟩ := h; ⟨c, xs, Same.tup s h1, Same.tup s h2, RowsAt.same s h3⟩
abbrev sNeedB : Stmt := top 17
theorem scNeedB : FnScope ["thing", "names", "clauses", "number", "clause"] ["thing"] (defScope sNeedB) := ⟨rfl, rfl, rfl, by decide +kernel, rfl, by decide +kernel, by decide +kernel⟩
def spNeedB (K : PySem.W.Frag) : Sp := fun vs H Q _ => ∃ (b : Addr) (n : Int) (cs : List (List Int)), vs = [.ref b] ∧ Bun K H b n cs ∧ GoodB n cs ∧ ∀ H', Same H H' → Q (.ref b) H'
theorem ok_need_b (G : Glo mg) (cBet : Cal P w K mg base 2 "is_between" spBetween) (cCl : Cal P w K mg base 3 "is_clause" (spClause K)) (D : Def K mg "need_bundle" sNeedB ["thing"]) : Cal P w K mg base 4 "need_bundle" (spNeedB K) := by
  refine cal D scNeedB (fun vs H Q E h => ?_) (fun f cdv A outer s H vs Q E hr h => ?_)
  · obtain ⟨b, n, cs, rfl, _⟩ := h
    rfl
  obtain ⟨b, n, cs, rfl, ⟨c, xs, h1, h2, h3⟩, hg, q⟩ := h
  obtain ⟨tN, mN⟩ := G.mostN
  obtain ⟨tC, mC⟩ := G.mostC
  refine ⟨_, pss_cons (ps_if (PW.pt (pw_or (pt_not (pt_val (pe_callB call_isi (by rfl) G.isinstance b_isinstance (pa_cons (pv 0) (pa_cons (pe_bltn (v := .ty "tuple") (by rfl) G.tuple b_tuple rfl) pa_nil)))))
        (pw_or1 (pt_cmpR op_ne (pe_callB call_len_seq (by rfl) G.len b_len (pa_cons (pv 0) pa_nil)) pe_int (nomark _))))) pss_never pss_nil)
    (pss_cons (ps_asg (pv 0) (pg_tup (by rfl) (pgs_cons (pg_name (i := 1) scNeedB.nd rfl (.inl rfl)) (pgs_cons (pg_name (i := 2) scNeedB.nd rfl (.inl rfl)) pgs_nil))))
    (pss_cons (ps_if (pt_not (pt_val (pe_c cBet hr (pa_cons (pv 1) (pa_cons pe_int (pa_cons (pe_glob (v := .int 7) rfl mN ⟨_, rfl⟩) pa_nil)))))) pss_never pss_nil)
    (pss_cons (ps_if (PW.pt (pw_or (pt_not (pt_val (pe_callB call_isi (by rfl) G.isinstance b_isinstance (pa_cons (pv 2) (pa_cons (pe_bltn (v := .ty "tuple") (by rfl) G.tuple b_tuple rfl) pa_nil)))))
        (pw_or1 (pt_cmpR op_gt (pe_callB call_len_seq (by rfl) G.len b_len (pa_cons (pv 2) pa_nil)) (pe_glob (v := .int 16) rfl mC ⟨_, rfl⟩) (nomark _))))) pss_never pss_nil)
    (pss_cons (ps_for PassesOwn.never rfl (pi_enumT (by rfl) G.enumerate (pa_cons (pv 2) pa_nil))
        (pg_tup rfl (pgs_cons (pg_name (i := 3) scNeedB.nd rfl (.inl rfl)) (pgs_cons (pg_name (i := 4) scNeedB.nd rfl (.inl rfl)) pgs_nil)))
        (pss_one (ps_if (PW.pt (pw_or (pt_not (pt_val (pe_c cCl hr (pa_cons (pv 1) (pa_cons (pv 4) pa_nil)))))
          (pw_or1 (PW.pt (pw_and (pt_cmpR op_gt (pv 3) pe_int (nomark _)) (pw_and1 (pt_cmpR (op_geT hr.units) (pe_ix ix_tup (pv 2) (pe_op op_sub (pv 3) pe_int) (fun _ _ => rfl)) (pv 4) (nomark _)))))))) pss_never pss_nil)))
    (pss_one (ps_ret (pv 0))))))), ?_⟩
  refine ⟨_, rfl, _, _, _, _, _, rfl, .ty "tuple", ty_tup h1, k_tup_tup, _, rfl, iteF ⟨_, rfl, b, _, rfl, .inr h1, rfl, _, rfl, iteB rfl ?_⟩⟩
  refine ⟨_, rfl, b, _, rfl, h1, rfl, _, _, rfl, _, _, rfl, rfl, ?_⟩
  refine ⟨_, rfl, n, 1, 7, rfl, hg.n1, hg.n7, _, rfl, iteB rfl ?_⟩
  have hx : xs.length = cs.length := Paired.length h3
  refine ⟨_, rfl, _, _, _, _, _, rfl, .ty "tuple", ty_tup h2, k_tup_tup, _, rfl, iteF ⟨_, rfl, c, _, rfl, .inr h2, _, _, rfl, rfl, _, rfl, iteB (decide_eq_false ?_) ?_⟩⟩
  · have := hg.len
    omega
  refine ⟨_, rfl, c, _, rfl, h2, ?_⟩
  refine for_y (y_enum (K := K) (a := c) (xs := xs)) (fun done σ H2 => Same H H2 ∧ ∃ u v, σ = [some (.ref b), some (.int n), some (.ref c), u, v]) ⟨Same.refl H, _, _, rfl⟩ (fun _ _ σ H2 _ p => Same.tup p.1 h2) (fun done p rest x σ H2 H3 e pv0 s hp => ?_) fun σ H2 p => ?_
  · obtain ⟨T, rfl, hT⟩ := hp
    obtain ⟨p1, u, v, rfl⟩ := pv0
    have s3 := p1.trans s
    have ei : xs.zipIdx[done.length]? = some p := by rw [e]; simp
    rw [List.getElem?_zipIdx] at ei
    obtain ⟨y, hy, ep⟩ := Option.map_eq_some_iff.mp ei
    subst ep
    obtain ⟨ci, hc, ya, rfl, hya⟩ := paired_get h3 hy
    have hci : ci ∈ cs := List.mem_of_getElem? hc
    refine ⟨T, _, rfl, SqT.of hT, rfl, _, _, rfl, _, _, rfl, rfl, ?_⟩
    refine ⟨_, rfl, _, rfl, n, ya, ci, rfl, Same.tup s3 hya, hg.lit ci hci, Nat.le_trans ((hg.lit ci hci).len hg.n7) (by decide), fun H4 s4 => ⟨_, rfl, iteB rfl ?_⟩⟩
    have s5 := s3.trans s4
    refine ⟨_, rfl, _, _, rfl, rfl, _, rfl, ?_⟩
    refine ite2 (fun z => ?_) fun z => ?_
    · have z : (0 : Int) < ((0 + done.length : Nat) : Int) := of_decide_eq_true z
      obtain ⟨j, ej⟩ : ∃ j, done.length = j + 1 := ⟨done.length - 1, by omega⟩
      rw [ej] at hy hc
      have hlt : j + 1 < cs.length := (List.getElem?_eq_some_iff.mp hc).1
      have hc2 : cs[j]? = some cs[j] := List.getElem?_eq_getElem (by omega)
      have hx2 : xs[j]? = some xs[j] := List.getElem?_eq_getElem (by omega)
      obtain ⟨cj, hcj, yb, eyb, hyb⟩ := paired_get h3 hx2
      have hlt2 : cj < ci := by
        have hp := hg.asc
        rw [List.pairwise_iff_getElem] at hp
        have := hp j (j + 1) (by omega) hlt (by omega)
        rw [List.getElem?_eq_getElem (by omega)] at hcj
        rw [List.getElem?_eq_getElem hlt] at hc
        cases hcj
        cases hc
        exact this
      refine ⟨_, rfl, _, rfl, _, _, rfl, rfl, c, xs, _, _, rfl, rfl, Same.tup s5 h2, at_of (j := j) (by omega) hx2, _, rfl, yb, ya, cj, ci, eyb, rfl, Same.tup s5 hyb, Same.tup s5 hya, _, rfl, iteNS hlt2 ?_⟩
      exact ⟨s5, _, _, rfl⟩
    · exact iteF ⟨s5, _, _, rfl⟩
  · obtain ⟨p1, u, v, rfl⟩ := p
    exact ⟨_, rfl, q H2 p1⟩
end
end IdW
end
section
set_option maxRecDepth 100000
namespace IdW
open PySem PySem.Spec PyProof.Rows L2 IdR RZ Idle
/-! ### ties and tried names as dicts -/
def dB (B : Ties) : List (Key × V) := B.map fun p => (Sum.inl p.1, V.int p.2)
def dT (T : List Int) : List (Key × V) := T.map fun x => (Sum.inl x, V.bl true)
theorem inl_dec (a b : Int) : (decide ((Sum.inl a : Key) = Sum.inl b)) = decide (a = b) := by rw [key_ll]; rfl
theorem valV_dB (x : Int) : ∀ B : Ties, valV (dB B) (Sum.inl x) = (getB B x).map V.int := by
  intro B
  unfold valV dB getB
  rw [List.find?_map]
  simp only [Option.map_map]
  congr 1
  congr 1
  funext p
  exact inl_dec _ _
theorem putK_dB (B : Ties) (x c : Int) : putK (dB B) (Sum.inl x) (V.int c) = dB (putB B x c) := by
  unfold putK dB putB
  rw [List.any_map]
  have e : ((fun kv : Key × V => decide (kv.1 = Sum.inl x)) ∘ fun p : Int × Int => ((Sum.inl p.1 : Key), V.int p.2)) = fun p => decide (p.1 = x) := by
    funext p
    exact inl_dec _ _
  rw [e]
  split
  · rw [List.map_map, List.map_map]
    refine List.map_congr_left fun p _ => ?_
    show (if (Sum.inl p.1 : Key) = Sum.inl x then _ else _) = ((Sum.inl (if p.1 = x then (p.1, c) else p).1 : Key), V.int (if p.1 = x then (p.1, c) else p).2)
    by_cases h : p.1 = x
    · rw [if_pos (by rw [h]), if_pos h]
    · rw [if_neg (fun z => h (Sum.inl.inj z)), if_neg h]
  · rw [List.map_append]
    rfl
theorem valV_dT (x : Int) (T : List Int) : (valV (dT T) (Sum.inl x)).isSome = decide (x ∈ T) := by
  rw [Bool.eq_iff_iff, decide_eq_true_eq, Option.isSome_iff_exists]
  constructor
  · rintro ⟨v, h⟩
    have := valV_in h
    unfold dT at this
    rw [List.map_map] at this
    obtain ⟨y, hy, e⟩ := List.mem_map.mp this
    cases e
    exact hy
  · intro h
    cases e : valV (dT T) (Sum.inl x) with
    | some v => exact ⟨v, rfl⟩
    | none => exact absurd (show (Sum.inl x : Key) ∈ (dT T).map (·.1) from by unfold dT; rw [List.map_map]; exact List.mem_map.mpr ⟨x, h, rfl⟩) (valV_not e)
theorem putK_dT {T : List Int} {x : Int} (h : x ∉ T) : putK (dT T) (Sum.inl x) (V.bl true) = dT (T ++ [x]) := by
  have e : valV (dT T) (Sum.inl x) = none := by
    have := valV_dT x T
    rw [decide_eq_false h] at this
    exact Option.isNone_iff_eq_none.mp (by rw [Option.isNone_iff_eq_none]; cases q : valV (dT T) (Sum.inl x) with | none => rfl | some v => rw [q] at this; cases this)
  rw [putK_new _ e]
  unfold dT
  rw [List.map_append]
  rfl
/-! ### the leads -/
theorem paired_valV {α : Type} {kf : α → Key} {R : α → V → Prop} {a : α} : ∀ {xs : List α} {kvs : List (Key × V)}, Paired (fun a p => p.1 = kf a ∧ R a p.2) xs kvs → a ∈ xs → (∀ b ∈ xs, kf b = kf a → b = a) → ∃ v, valV kvs (kf a) = some v ∧ R a v
  | _, _, .nil, h, _ => nomatch h
  | x :: xs, p :: kvs, .cons r t, h, hi => by
    by_cases e : p.1 = kf a
    · have : x = a := hi x List.mem_cons_self (r.1.symm.trans e)
      subst this
      exact ⟨p.2, by unfold valV; simp [List.find?_cons, e], r.2⟩
    · rcases List.mem_cons.mp h with z | h
      · exact absurd (by rw [z]; exact r.1) e
      · obtain ⟨v, h1, h2⟩ := paired_valV t h fun b hb => hi b (List.mem_cons_of_mem _ hb)
        exact ⟨v, by unfold valV at h1 ⊢; simp only [List.find?_cons, decide_eq_false e]; exact h1, h2⟩
def LeadV (L : Int → List Int) (H : Hp) (i : Int) (v : V) : Prop := ∃ l, v = .ref l ∧ H l = some (.lst ((L i).map V.int))
abbrev LeadK (L : Int → List Int) (m : Nat) (H : Hp) (kvs : List (Key × V)) : Prop := Paired (fun i p => p.1 = Sum.inl i ∧ LeadV L H i p.2) (upto m) kvs
theorem LeadK.get {L : Int → List Int} {m : Nat} {H : Hp} {kvs : List (Key × V)} (h : LeadK L m H kvs) {c : Int} (h0 : 0 ≤ c) (h1 : c < m) : ∃ l, valV kvs (Sum.inl c) = some (.ref l) ∧ H l = some (.lst ((L c).map V.int)) := by
  obtain ⟨v, e, l, ev, hl⟩ := paired_valV (kf := Sum.inl) (a := c) h (mem_upto.mpr ⟨h0, h1⟩) fun b _ e => Sum.inl.inj e
  subst ev
  exact ⟨l, e, hl⟩
theorem LeadK.keep {L : Int → List Int} {m : Nat} {H H' : Hp} {kvs : List (Key × V)} (h : LeadK L m H kvs) (k : ∀ b xs, H b = some (.lst xs) → H' b = some (.lst xs)) : LeadK L m H' kvs :=
  L2.Paired.mapP h fun i p z => ⟨z.1, let ⟨l, e, q⟩ := z.2; ⟨l, e, k _ _ q⟩⟩
/-- the leads under a lock -/
def LeadsF (L : Int → List Int) (m : Nat) (H : Hp) (d : Addr) : Prop := ∃ o kvs, H d = some (.frz o (.dK kvs)) ∧ LeadK L m H kvs
theorem But.keeps {H H' : Hp} {b t : Addr} {kb kt : List (Key × V)} (k : But [b, t] H H') (hb : H b = some (.dK kb)) (ht : H t = some (.dK kt)) {a : Addr} {o : HO} (h : H a = some o) (hn : ∀ kvs, o ≠ .dK kvs) : H' a = some o := by
  refine k a o (fun z => ?_) h
  rcases List.mem_cons.mp z with e | z
  · rw [e, hb] at h
    cases h
    exact hn _ rfl
  · rw [List.mem_singleton.mp z, ht] at h
    cases h
    exact hn _ rfl
theorem LeadsF.but {L : Int → List Int} {m : Nat} {H H' : Hp} {d b t : Addr} {kb kt : List (Key × V)} (h : LeadsF L m H d) (k : But [b, t] H H') (hb : H b = some (.dK kb)) (ht : H t = some (.dK kt)) : LeadsF L m H' d := by
  obtain ⟨o, kvs, h1, h2⟩ := h
  exact ⟨o, kvs, k.keeps hb ht h1 (fun _ z => by cases z), h2.keep fun b xs e => k.keeps hb ht e fun _ z => by cases z⟩
/-! ### what stays true of ties -/
def In7 (L : Int → List Int) : Prop := ∀ c x, x ∈ L c → 1 ≤ x ∧ x ≤ 7
structure OkB (L : Int → List Int) (m : Nat) (B : Ties) : Prop where
  nd : (B.map (·.1)).Nodup
  valid : ∀ p ∈ B, p.1 ∈ L p.2
  num : ∀ p ∈ B, 0 ≤ p.2 ∧ p.2 < m
def OkT (T : List Int) : Prop := T.Nodup ∧ ∀ x ∈ T, 1 ≤ x ∧ x ≤ 7
theorem OkB.len {L : Int → List Int} {m : Nat} {B : Ties} (h7 : In7 L) (h : OkB L m B) : (dB B).length ≤ 7 := by
  have := rng7 h.nd fun x hx => by
    obtain ⟨p, hp, e⟩ := List.mem_map.mp hx
    rw [← e]
    exact h7 _ _ (h.valid p hp)
  unfold dB
  rw [List.length_map]
  rwa [List.length_map] at this
theorem OkT.len {T : List Int} (h : OkT T) : (dT T).length ≤ 7 := by
  unfold dT
  rw [List.length_map]
  exact rng7 h.1 h.2
theorem OkT.snoc {T : List Int} {x : Int} (h : OkT T) (hx : x ∉ T) (h7 : 1 ≤ x ∧ x ≤ 7) : OkT (T ++ [x]) :=
  ⟨nd_snoc h.1 hx, fun y hy => by
    rcases List.mem_append.mp hy with hy | hy
    · exact h.2 y hy
    · rw [List.mem_singleton.mp hy]; exact h7⟩
theorem OkB.grow {L : Int → List Int} {m k : Nat} {B : Ties} {c : Int} {T : List Int} (h : OkB L m B) (hf : Few L T k) (hc : 0 ≤ c ∧ c < m) : OkB L m (Idle.grow L k B c T).2.1 := by
  have G := grow_ok k B c T hf h.valid h.nd
  refine ⟨G.nd, G.valid, fun p hp => ?_⟩
  cases e : (Idle.grow L k B c T).1 with
  | true =>
    have := (G.perm e).mem_iff.mp (List.mem_map_of_mem hp)
    rcases List.mem_cons.mp this with z | z
    · rw [z]; exact hc
    · obtain ⟨q, hq, eq⟩ := List.mem_map.mp z
      rw [← eq]
      exact h.num q hq
  | false =>
    rw [(G.no e).1] at hp
    exact h.num p hp
theorem scan_T {g : Ties → Int → List Int → Bool × Ties × List Int} {c : Int} (hg : ∀ B d T, OkT T → OkT (g B d T).2.2) : ∀ (xs : List Int) (B : Ties) (T : List Int), (∀ x ∈ xs, 1 ≤ x ∧ x ≤ 7) → OkT T → OkT (Idle.scan g c xs B T).2.2
  | [], _, _, _, h => h
  | x :: xs, B, T, hx, h => by
    have hxs : ∀ y ∈ xs, 1 ≤ y ∧ y ≤ 7 := fun y hy => hx y (List.mem_cons_of_mem _ hy)
    unfold Idle.scan
    by_cases ht : x ∈ T
    · rw [if_pos ht]; exact scan_T hg xs B T hxs h
    · rw [if_neg ht]
      have h2 := h.snoc ht (hx x List.mem_cons_self)
      cases getB B x with
      | none => exact h2
      | some d =>
        have h3 := hg B d _ h2
        dsimp only
        generalize g B d (T ++ [x]) = o at h3
        obtain ⟨b, B2, T2⟩ := o
        cases b with
        | true => exact h3
        | false => exact scan_T hg xs B2 T2 hxs h3
theorem grow_T {L : Int → List Int} (h7 : In7 L) : ∀ (k : Nat) (B : Ties) (c : Int) (T : List Int), OkT T → OkT (grow L k B c T).2.2
  | 0, _, _, _, h => h
  | k + 1, B, c, T, h => scan_T (fun B d T => grow_T h7 k B d T) (L c) B T (fun x hx => h7 c x hx) h
end IdW
end
section
set_option maxRecDepth 100000
namespace IdW
open PySem PySem.Spec PyProof.Rows L2 IdR RZ Idle
section
variable {P : Program} {w : World} {K : PySem.W.Frag} {mg : Str → Option Value} {base : Heap} {L : Int → List Int} {m : Nat}
abbrev sGrown : Stmt := top 19
theorem scGrown : FnScope ["leads", "back", "first", "tried", "later"] ["leads", "back", "first", "tried"] (defScope sGrown) := ⟨rfl, rfl, rfl, by decide +kernel, rfl, by decide +kernel, by decide +kernel⟩
def spGrown (L : Int → List Int) (m k : Nat) : Sp := fun vs H Q _ => ∃ (d b t : Addr) (c : Int) (B : Ties) (T : List Int), vs = [.ref d, .ref b, .int c, .ref t] ∧ LeadsF L m H d ∧ H b = some (.dK (dB B)) ∧ H t = some (.dK (dT T)) ∧ b ≠ t ∧ 0 ≤ c ∧ c < m ∧
  OkB L m B ∧ OkT T ∧ Few L T k ∧ ∀ H', But [b, t] H H' → H' b = some (.dK (dB (grow L k B c T).2.1)) → H' t = some (.dK (dT (grow L k B c T).2.2)) → Q (.bl (grow L k B c T).1) H'
theorem but_upd {B : List Addr} {H H' : Hp} {a : Addr} {o : HO} (h : But B H H') (ha : a ∈ B) : But B H (upd H' a o) := h.trans (But.set ha)
theorem dget_r {H : Hp} {a : Addr} {kvs : List (Key × V)} {k : Key} {r : Option V} (h : Rd H a (.dK kvs)) (e : valV kvs k = r) : DGet H a (kV k) r := .inl ⟨kvs, k, h, rfl, e.symm⟩
theorem ok_grown (h7 : In7 L) (D : Def K mg "is_grown" sGrown ["leads", "back", "first", "tried"]) : ∀ k : Nat, Cal P w K mg base k "is_grown" (spGrown L m k)
  | 0 => by
    obtain ⟨f, fd, F, mf, bf⟩ := D.ex
    have no : ∀ vs H Q E, ¬ spGrown L m 0 vs H Q E := fun vs H Q E h => by
      obtain ⟨d, b, t, c, B, T, _, _, _, _, _, _, _, _, _, hf, _⟩ := h
      exact Few.zero hf
    exact ⟨f, fd, ["leads", "back", "first", "tried"], ⟨fun vs H Q E h => absurd h (no vs H Q E), fun A outer s H args us vs Q E _ _ _ _ h => absurd h (no vs H Q E)⟩, mf, F.kp, bf⟩
  | k + 1 => by
    have cG := ok_grown h7 D k
    refine cal D scGrown (fun vs H Q E h => ?_) (fun f cdv A outer s H vs Q E hr h => ?_)
    · obtain ⟨d, b, t, c, B, T, rfl, _⟩ := h
      rfl
    obtain ⟨d, b, t, c, B, T, rfl, hL, hb, ht, hbt, h0, hm, oB, oT, hf, q⟩ := h
    have hu := hu_of hr
    refine ⟨_, pss_cons (ps_for PassesOwn.never rfl (pi_list (pe_dget hu (pv 0) (pv 2) (fun _ _ => rfl))) (pg_name (i := 4) scGrown.nd rfl (.inl rfl))
        (pss_one (ps_if (pt_cmp (pc_dnotin hu (pv 4) (pv 3)))
          (pss_cons (ps_dput hu (pv 3) (pv 4) pe_bl rfl)
          (pss_one (ps_if (PW.pt (pw_or (pt_cmp (pc_dnotin hu (pv 4) (pv 1))) (pw_or1 (pt_val (pe_c cG hr (pa_cons (pv 0) (pa_cons (pv 1) (pa_cons (pe_dget hu (pv 1) (pv 4) (fun _ _ => rfl)) (pa_cons (pv 3) pa_nil)))) (Nat.le_refl k))))))
            (pss_cons (ps_dput hu (pv 1) (pv 4) (pv 2) rfl) (pss_one (ps_ret pe_bl))) pss_nil)))
          pss_nil)))
      (pss_one (ps_ret pe_bl)), ?_⟩
    obtain ⟨o, kvs, hd, hk⟩ := id hL
    obtain ⟨l, el, hl⟩ := hk.get h0 hm
    refine ⟨_, rfl, _, rfl, d, _, rfl, dget_r (k := Sum.inl c) (.inr ⟨o, hd⟩) el, l, rfl, ⟨_, SqL.of hl⟩, ?_⟩
    refine for_y (y_list (K := K) (a := l) (xs := (L c).map V.int)).map (fun done σ H2 => ∃ rest B2 T2, L c = done ++ rest ∧ grow L (k + 1) B c T = Idle.scan (grow L k) c rest B2 T2 ∧ But [b, t] H H2 ∧ H2 b = some (.dK (dB B2)) ∧ H2 t = some (.dK (dT T2)) ∧ OkB L m B2 ∧ OkT T2 ∧ Few L T2 (k + 1) ∧ ∃ u, σ = [some (.ref d), some (.ref b), some (.int c), some (.ref t), u])
      ⟨L c, B, T, rfl, rfl, But.refl H, hb, ht, oB, oT, hf, _, rfl⟩ (fun done _ σ H2 _ p => ?_) (fun done x rest v σ H2 H3 e p s hx => ?_) fun σ H2 p => ?_
    · obtain ⟨_, B2, T2, _, _, p3, _⟩ := p
      exact SqL.of (p3.keeps hb ht hl fun _ z => by cases z)
    · subst hx
      obtain ⟨rest2, B2, T2, e1, e2, p3, p4, p5, p6, p7, p8, u, rfl⟩ := p
      have er : rest2 = x :: rest := by
        rw [e1] at e
        exact List.append_cancel_left e
      subst er
      have hxm : x ∈ L c := by rw [e1]; simp
      have hx7 := h7 c x hxm
      have p3' := p3.trans (But.of s)
      have p4' := s _ _ p4
      have p5' := s _ _ p5
      have edone : L c = (done ++ [x]) ++ rest := by rw [e1, List.append_assoc]; rfl
      rw [Idle.scan] at e2
      refine ⟨_, rfl, _, rfl, t, _, rfl, dget_r (k := Sum.inl x) (.inl p5') rfl, _, rfl, ?_⟩
      rw [valV_dT]
      by_cases hxT : x ∈ T2
      · rw [if_pos hxT] at e2
        rw [decide_eq_true hxT]
        exact iteF ⟨rest, B2, T2, edone, e2, p3', p4', p5', p6, p7, p8, _, rfl⟩
      rw [if_neg hxT] at e2
      rw [decide_eq_false hxT]
      refine iteT ?_
      have oT2 := p7.snoc hxT hx7
      refine ⟨_, rfl, _, rfl, t, _, rfl, DPut.k (k := Sum.inl x) p5' (small1000 (Nat.le_trans p7.len (by decide))), ?_⟩
      rw [putK_dT hxT]
      have b4 : (upd H3 t (.dK (dT (T2 ++ [x])))) b = some (.dK (dB B2)) := by rw [upd_ne hbt]; exact p4'
      have s4 : But [b, t] H (upd H3 t (.dK (dT (T2 ++ [x])))) := but_upd p3' (by simp)
      refine ⟨_, rfl, _, rfl, b, _, rfl, dget_r (k := Sum.inl x) (.inl b4) rfl, _, rfl, ?_⟩
      rw [valV_dB]
      cases eg : getB B2 x with
      | none =>
        rw [eg] at e2
        refine iteT (iteT ?_)
        refine ⟨_, rfl, _, rfl, _, rfl, b, _, rfl, DPut.k (k := Sum.inl x) b4 (small1000 (Nat.le_trans (p6.len h7) (by decide))), ?_⟩
        rw [putK_dB]
        have := q (upd (upd H3 t (.dK (dT (T2 ++ [x])))) b (.dK (dB (putB B2 x c)))) (but_upd s4 (by simp)) (by rw [e2]; exact upd_same) (by rw [e2, upd_ne hbt.symm]; exact upd_same)
        rw [e2] at this
        exact this
      | some y =>
        rw [eg] at e2
        have hy := p6.num _ (getB_mem eg)
        have hf2 := p8.next hxm hxT
        refine iteF ?_
        refine ⟨_, rfl, _, rfl, _, rfl, _, rfl, b, _, rfl, dget_r (k := Sum.inl x) (.inl b4) (by rw [valV_dB, eg]; rfl), _, rfl, d, b, t, y, B2, T2 ++ [x], rfl, hL.but s4 hb ht, b4, upd_same, hbt, hy.1, hy.2, p6, oT2, hf2, fun H5 s5 b5 t5 => ⟨_, rfl, ?_⟩⟩
        have G := grow_ok k B2 y (T2 ++ [x]) hf2 p6.valid p6.nd
        have oB5 := p6.grow (T := T2 ++ [x]) hf2 hy
        have oT5 := grow_T h7 k B2 y (T2 ++ [x]) oT2
        dsimp only at e2
        generalize grow L k B2 y (T2 ++ [x]) = r at e2 b5 t5 G oB5 oT5
        obtain ⟨r1, B5, T5⟩ := r
        cases r1 with
        | true =>
          refine iteT ?_
          refine ⟨_, rfl, _, rfl, _, rfl, b, _, rfl, DPut.k (k := Sum.inl x) b5 (small1000 (Nat.le_trans (oB5.len h7) (by decide))), ?_⟩
          rw [putK_dB]
          have := q (upd H5 b (.dK (dB (putB B5 x c)))) (but_upd (s4.trans s5) (by simp)) (by rw [e2]; exact upd_same) (by rw [e2, upd_ne hbt.symm]; exact t5)
          rw [e2] at this
          exact this
        | false =>
          exact iteF ⟨rest, B5, T5, edone, e2, s4.trans s5, b5, t5, oB5, oT5, p8.mono fun z hz => G.sub z (List.mem_append_left _ hz), _, rfl⟩
    · obtain ⟨rest2, B2, T2, e1, e2, p3, p4, p5, _⟩ := p
      have er : rest2 = [] := by
        have := congrArg List.length e1
        rw [List.length_append] at this
        exact List.length_eq_zero_iff.mp (by omega)
      subst er
      rw [Idle.scan] at e2
      have := q H2 p3 (by rw [e2]; exact p4) (by rw [e2]; exact p5)
      rw [e2] at this
      exact this
end
end IdW
end
section
set_option maxRecDepth 100000
namespace IdW
open PySem PySem.Spec PyProof.Rows L2 IdR RZ Idle
/-! ### the bundle's rows, the leads -/
def row (cs : List (List Int)) (i : Int) : List Int := cs.getD i.toNat []
def oneTo (n : Int) : List Int := (List.range n.toNat).map fun (i : Nat) => 1 + (i : Int)
theorem mem_oneTo {n x : Int} : x ∈ oneTo n ↔ 1 ≤ x ∧ x ≤ n := by
  unfold oneTo
  rw [List.mem_map]
  constructor
  · rintro ⟨i, hi, e⟩
    have := List.mem_range.mp hi
    omega
  · intro h
    exact ⟨(x - 1).toNat, List.mem_range.mpr (by omega), by omega⟩
theorem oneTo_len (n : Int) : (oneTo n).length = n.toNat := by unfold oneTo; rw [List.length_map, List.length_range]
def LL (n : Int) (cs : List (List Int)) (i : Int) : List Int := (oneTo n).filter fun x => decide (x ∈ (row cs i).map ab)
theorem mem_LL {n : Int} {cs : List (List Int)} {i x : Int} : x ∈ LL n cs i ↔ (1 ≤ x ∧ x ≤ n) ∧ x ∈ (row cs i).map ab := by
  unfold LL
  rw [List.mem_filter, mem_oneTo, decide_eq_true_eq]
theorem row_mem {cs : List (List Int)} {i : Int} (h0 : 0 ≤ i) (h1 : i < cs.length) : cs[i.toNat]? = some (row cs i) ∧ row cs i ∈ cs := by
  have hi : i.toNat < cs.length := by omega
  have e : row cs i = cs[i.toNat] := by unfold row; rw [List.getD_eq_getElem?_getD, List.getElem?_eq_getElem hi]; rfl
  rw [e]
  exact ⟨List.getElem?_eq_getElem hi, List.getElem_mem hi⟩
theorem inV_int (x : Int) (ns : List Int) : inV (.int x) (ns.map V.int) = decide (x ∈ ns) := by
  unfold inV
  rw [Bool.eq_iff_iff, List.any_eq_true, decide_eq_true_eq]
  constructor
  · rintro ⟨v, hv, e⟩
    obtain ⟨y, hy, ey⟩ := List.mem_map.mp hv
    subst ey
    have : y = x := by simpa [eqV] using e
    rw [← this]; exact hy
  · intro h
    exact ⟨.int x, List.mem_map_of_mem h, by simp [eqV]⟩
theorem flat_ints (ns : List Int) : (ns.map V.int).all flatV = true := List.all_eq_true.mpr fun v hv => by
  obtain ⟨y, _, ey⟩ := List.mem_map.mp hv
  rw [← ey]; rfl
theorem op_inK {X : Cx} (K : PySem.W.Frag) (h : X.K = K := by rfl) : OpR X (compareOp .In) (rIn K false) := by
  subst h
  exact op_in_seq
theorem op_ninK {X : Cx} (K : PySem.W.Frag) (h : X.K = K := by rfl) : OpR X (compareOp .NotIn) (rIn K true) := by
  subst h
  exact op_notIn_seq
/-- a row of a bundle, read -/
theorem Bun.row {K : PySem.W.Frag} {H : Hp} {b : Addr} {n : Int} {cs : List (List Int)} (h : Bun K H b n cs) {i : Int} (h0 : 0 ≤ i) (h1 : i < cs.length) :
    ∃ c xs ya, SqT K H b [.int n, .ref c] ∧ SqT K H c xs ∧ atI xs i = some (.ref ya) ∧ SqT K H ya ((IdW.row cs i).map V.int) ∧ xs.length = cs.length := by
  obtain ⟨c, xs, a1, a2, a3⟩ := h
  have hl : xs.length = cs.length := Paired.length a3
  have hx : xs[i.toNat]? = some xs[i.toNat] := List.getElem?_eq_getElem (by omega)
  obtain ⟨r, hr, ya, e, hy⟩ := paired_get a3 hx
  rw [(row_mem h0 h1).1] at hr
  cases hr
  exact ⟨c, xs, ya, a1, a2, at_of (j := i.toNat) (by omega) (by rw [hx, e]), hy, hl⟩
section
variable {P : Program} {w : World} {K : PySem.W.Frag} {mg : Str → Option Value} {base : Heap}
abbrev sLeads : Stmt := top 21
def dictScope (s : Stmt) : Scope := match defBody s with
  | [.Return (some (.DictComp _ _ _ sc _)) _] => sc
  | _ => ⟨.function, [], false, false, []⟩
theorem scLeads : FnScope ["bundle", "numbers", "names", "number", "name"] ["bundle", "numbers", "names"] (defScope sLeads) := ⟨rfl, rfl, rfl, by decide +kernel, rfl, by decide +kernel, by decide +kernel⟩
def spLeads (K : PySem.W.Frag) : Sp := fun vs H Q _ => ∃ (b nu na : Addr) (n : Int) (cs : List (List Int)), vs = [.ref b, .ref nu, .ref na] ∧ Bun K H b n cs ∧ GoodB n cs ∧ SqL K H nu ((upto cs.length).map V.int) ∧ SqL K H na ((oneTo n).map V.int) ∧
  ∀ H' d kvs, Same H H' → H d = none → H' d = some (.dK kvs) → LeadK (LL n cs) cs.length H' kvs → Q (.ref d) H'
theorem ok_leads_of (G : Glo mg) (cNI : Cal P w K mg base 1 "names_in" (spNamesIn K)) (D : Def K mg "leads_of" sLeads ["bundle", "numbers", "names"]) : Cal P w K mg base 2 "leads_of" (spLeads K) := by
  refine cal D scLeads (fun vs H Q E h => ?_) (fun f cdv A outer s H vs Q E hr h => ?_)
  · obtain ⟨b, nu, na, n, cs, rfl, _⟩ := h
    rfl
  obtain ⟨b, nu, na, n, cs, rfl, hB, hg, h1, h2, q⟩ := h
  refine ⟨_, pss_one (ps_ret (pe_dc (own := [("number", 3)]) (g := gName 3) (tt := tYes) rfl scLeads.nd (pi_list (pv 1)) (blkOk_by (N := ["bundle", "numbers", "names", "number", "name"]) (sc := defScope sLeads) (by decide +kernel))
    (fun _ _ _ _ _ => pg_name (i := 3) scLeads.nd rfl (Or.inr rfl) (Or.inl rfl)) (fun _ _ _ _ _ => pts_nil) (fun _ _ _ _ _ => pv 3)
    (fun _ _ _ _ _ => pe_lc (own := [("name", 4)]) (g := gName 4) (wi := iList K (tVar 2)) (tt := tTest (tOp (rIn K false) (tVar 4) (tCall (spNamesIn K) [] E0 (tCons (tLst (tCons (tOp (rIxT K) (tOp (rIxT K) (tVar 0) (L2.tC (.int 1))) (tVar 3)) tNil)) tNil)))) (te := tVar 4) rfl scLeads.nd (pi_list (pv 2))
      (blkOk_by (N := ["bundle", "numbers", "names", "number", "name"]) (sc := relS (dictScope sLeads) (defScope sLeads)) (by decide +kernel))
      (fun _ _ _ _ _ => pg_name (i := 4) scLeads.nd rfl (Or.inl rfl) (Or.inr rfl))
      (fun _ _ _ _ _ => pts_one (pt_cmpR (op_inK K) (pv 4) (pe_c cNI hr (pa_cons (pe_lst (pa_cons (pe_ix (ixt K) (pe_ix (ixt K) (pv 0) pe_int (fun _ _ => rfl)) (pv 3) (fun _ _ => rfl)) pa_nil)) pa_nil)) rfl))
      (fun _ _ _ _ _ => pv 4)))), ?_⟩
  refine ⟨_, rfl, nu, rfl, ⟨_, h1⟩, fun D hD => ?_⟩
  have hcs := hg.len
  have inj : ((upto cs.length).map Sum.inl : List Key).Nodup := nodup_map (upto_nodup _) fun x _ y _ e => Sum.inl.inj e
  refine dc_keep (y_list (K := K) (a := nu) (xs := (upto cs.length).map V.int)).map hD (fun H2 s2 => s2.seq h1) (fun _ => true) Sum.inl (by rw [upto_len]; omega) inj (fun i v H => LeadV (LL n cs) H i v)
    (fun i v H H' kvs e p k => ?_) (fun i x H2 hm s2 hx R R' hR _ => ?_) fun H2 kvs s2 e pr => ?_
  · obtain ⟨l, el, hl⟩ := p
    exact ⟨l, el, k _ _ (ne_of hl e fun z => by cases z) hl⟩
  · subst hx
    obtain ⟨i0, i1⟩ := mem_upto.mp hm
    have hB2 := hB.same s2
    refine ⟨rfl, yes ⟨_, rfl, _, rfl, na, rfl, ⟨_, s2.seq h2⟩, fun D2 hD2 => ?_⟩⟩
    refine lc_keep (y_list (K := K) (a := na) (xs := (oneTo n).map V.int)).map hD2 (fun H3 s3 => s3.seq (s2.seq h2)) (fun x => decide (x ∈ (row cs i).map ab)) V.int (by rw [oneTo_len]; have := hg.n7; omega) (fun x v H3 hx s3 hv R2 R2' hR2 hR2' => ?_) fun H3 s3 e3 => ?_
    · subst hv
      obtain ⟨c, xs, ya, a1, a2, a3, a4, _⟩ := (hB2.same s3).row i0 i1
      refine ⟨rfl, _, rfl, _, rfl, b, _, _, _, rfl, rfl, a1, atI_nat (xs := [V.int n, V.ref c]) (j := 1) rfl, _, rfl, c, xs, _, _, rfl, rfl, a2, a3, (by show 1 ≤ sizeLine; decide), fun p hp => ?_⟩
      have sp := same_new (.lst [V.ref ya]) hp
      refine ⟨p, [V.ref ya], [row cs i], rfl, SqL.of upd_same, .cons ⟨ya, rfl, Same.tup sp a4⟩ .nil, fun z hz => ?_, fun H4 p2 ns s4 asc mem e4 => ?_⟩
      · obtain ⟨c', hc', l, hl, el⟩ := hz
        rw [List.mem_singleton.mp hc'] at hl
        have := (hg.lit _ (row_mem i0 i1).2).1 l hl
        have := hg.n7
        omega
      · refine ⟨p2, ns.map V.int, rfl, .inl (SqL.of e4), rfl, flat_ints ns, _, rfl, ?_⟩
        show if inV (.int x) (ns.map V.int) = true then _ else _
        rw [inV_int]
        have em : x ∈ ns ↔ x ∈ (row cs i).map ab := by
          rw [mem, List.mem_map]
          exact ⟨fun ⟨c', hc', l, hl, el⟩ => ⟨l, by rw [← List.mem_singleton.mp hc']; exact hl, el⟩, fun ⟨l, hl, el⟩ => ⟨_, List.mem_singleton.mpr rfl, l, hl, el⟩⟩
        by_cases hm2 : x ∈ ns
        · rw [decide_eq_true hm2]
          exact iteT ⟨_, rfl, hR2 (decide_eq_true (em.mp hm2)) H4 (sp.trans s4)⟩
        · rw [decide_eq_false hm2]
          exact iteF (hR2' (decide_eq_false fun z => hm2 (em.mpr z)) H4 (sp.trans s4))
    · exact hR rfl _ H3 ⟨D2, rfl, e3⟩ s3
  · refine q H2 D kvs s2 hD e ?_
    have ef : (upto cs.length).filter (fun _ => true) = upto cs.length := List.filter_eq_self.mpr fun _ _ => rfl
    rw [ef] at pr
    exact pr
end
end IdW
end
section
set_option maxRecDepth 100000
namespace IdW
open PySem PySem.Spec PyProof.Rows L2 IdR RZ Idle
section
variable {P : Program} {w : World} {K : PySem.W.Frag} {mg : Str → Option Value} {base : Heap} {L : Int → List Int} {m : Nat}
/-! ### ties_of -/
abbrev sTies : Stmt := top 20
theorem scTies : FnScope ["leads", "back", "first"] ["leads"] (defScope sTies) := ⟨rfl, rfl, rfl, by decide +kernel, rfl, by decide +kernel, by decide +kernel⟩
def spTies (L : Int → List Int) (m : Nat) : Sp := fun vs H Q _ => ∃ (d : Addr) (kvs : List (Key × V)), vs = [.ref d] ∧ H d = some (.dK kvs) ∧ LeadK L m H kvs ∧ Few L [] 8 ∧ In7 L ∧ m ≤ 1000 ∧
  ∀ H' p, Same H H' → H' p = some (.dK (dB (tiesOf L 8 (upto m)))) → Q (.ref p) H'
theorem tiesOf_snoc (L : Int → List Int) (k : Nat) (cs : List Int) (c : Int) : tiesOf L k (cs ++ [c]) = (grow L k (tiesOf L k cs) c []).2.1 := by
  unfold tiesOf
  rw [List.foldl_append]
  rfl
theorem okB_of {L : Int → List Int} {m : Nat} {cs : List Int} {B : Ties} (h : TiesOk L cs B) (hc : ∀ c ∈ cs, 0 ≤ c ∧ c < m) : OkB L m B := ⟨h.nd, h.valid, fun p hp => hc _ (h.sub p hp)⟩
theorem ok_ties (cG : Cal P w K mg base 8 "is_grown" (spGrown L m 8)) (D : Def K mg "ties_of" sTies ["leads"]) : Cal P w K mg base 9 "ties_of" (spTies L m) := by
  refine cal D scTies (fun vs H Q E h => ?_) (fun f cdv A outer s H vs Q E hr h => ?_)
  · obtain ⟨d, kvs, rfl, _⟩ := h
    rfl
  obtain ⟨d, kvs, rfl, hd, hk, hf, h7, hm, q⟩ := h
  refine ⟨_, pss_cons (ps_set (i := 1) scTies.nd rfl (.inl rfl) pe_dnewK)
    (pss_cons (ps_lock (ps_for PassesOwn.never rfl (pi_keys (pv 0)) (pg_name (i := 2) scTies.nd rfl (.inl rfl)) (pss_one (ps_expr (pe_c cG hr (pa_cons (pv 0) (pa_cons (pv 1) (pa_cons (pv 2) (pa_cons pe_dnewK pa_nil)))))))))
    (pss_one (ps_ret (pv 1)))), ?_⟩
  intro b hb
  have hdb : d ≠ b := ne_of_none hd hb
  have s1 := same_new (.dK []) hb
  refine ⟨d, _, s1 _ _ hd, True.intro, fun od => ?_⟩
  refine ⟨_, rfl, d, od, rfl, .inl ⟨kvs, upd_same, ?_⟩⟩
  have kl : kvs.length = m := by rw [← Paired.length hk, upto_len]
  have Y := (y_keys (d := d) (o := od) (kvs := kvs))
  have Y2 : Yields (Itk d od kvs) (fun H => H d = some (.frz od (.dK kvs))) (upto m) (fun c x _ => x = .int c) := fun H h => by
    obtain ⟨y1, y2, y3⟩ := Y H h
    rw [kl] at y1 y2 y3
    rw [upto_len]
    refine ⟨y1, y2, fun i x H' hi y => ?_⟩
    obtain ⟨s, p, e1, e2⟩ := y3 i x H' hi y
    have hu : (upto m)[i]? = some ((upto m)[i]'(by rw [upto_len]; exact hi)) := List.getElem?_eq_getElem _
    obtain ⟨p', e3, e4, _⟩ := paired_get hk hu
    rw [e1] at e3
    cases e3
    exact ⟨s, _, hu, by rw [e2, e4]; rfl⟩
  refine for_y Y2 (fun done σ H2 => But [b] (upd (upd H b (.dK [])) d (.frz od (.dK kvs))) H2 ∧ H2 b = some (.dK (dB (tiesOf L 8 done))) ∧ ∃ u, σ = [some (.ref d), some (.ref b), u])
    ⟨But.refl _, by rw [upd_ne hdb.symm]; exact upd_same, _, rfl⟩ (fun done rest σ H2 _ p => p.1 d _ (by simp [hdb]) upd_same) (fun done c rest x σ H2 H3 e p s hx => ?_) fun σ H2 p => ?_
  · subst hx
    obtain ⟨p1, p2, u, rfl⟩ := p
    have hc := mem_upto.mp (show c ∈ upto m by rw [e]; simp)
    have hdone : ∀ c ∈ done, 0 ≤ c ∧ c < m := fun c hc => mem_upto.mp (by rw [e]; exact List.mem_append_left _ hc)
    have nd : done.Nodup := (List.nodup_append.mp (by rw [← e]; exact upto_nodup m)).1
    have T := ties_ok hf done nd
    refine ⟨_, rfl, _, rfl, _, rfl, fun t ht => ?_⟩
    have p1' := p1.trans (But.of s)
    have s4 := same_new (.dK []) ht
    have b3 := s _ _ p2
    have hbt : b ≠ t := ne_of_none b3 ht
    have hF : LeadsF L m (upd H3 t (.dK [])) d := by
      refine ⟨od, kvs, s4 _ _ (p1' d _ (by simp [hdb]) upd_same), hk.keep fun a xs ea => s4 _ _ (p1' a _ (fun z => ?_) ?_)⟩
      · rw [List.mem_singleton.mp z] at ea
        rw [hb] at ea; cases ea
      · rw [upd_ne (ne_of ea hd fun z => by cases z)]
        exact s1 _ _ ea
    refine ⟨d, b, t, c, tiesOf L 8 done, [], rfl, hF, s4 _ _ b3, upd_same, hbt, hc.1, hc.2, okB_of T hdone, ⟨List.nodup_nil, fun x hx => by cases hx⟩, hf, fun H5 s5 b5 t5 => ?_⟩
    rw [← tiesOf_snoc] at b5
    refine ⟨fun a o na ea => ?_, b5, _, rfl⟩
    have e3 := p1' a o na ea
    refine s5 a o (fun z => ?_) (s4 _ _ e3)
    rcases List.mem_cons.mp z with z | z
    · exact na (by rw [z]; simp)
    · exact ne_of_none e3 ht (List.mem_singleton.mp z)
  · obtain ⟨p1, p2, u, rfl⟩ := p
    refine ⟨p1 d _ (by simp [hdb]) upd_same, _, rfl, q _ b (fun a o ea => ?_) (by rw [upd_ne hdb.symm]; exact p2)⟩
    by_cases e : a = d
    · rw [e] at ea ⊢
      rw [hd] at ea
      cases ea
      exact upd_same
    · rw [upd_ne e]
      exact p1 a o (by simp [ne_of_none ea hb]) (by rw [upd_ne e]; exact s1 _ _ ea)
/-! ### all_leads -/
abbrev sAll : Stmt := top 23
theorem scAll : FnScope ["bundle"] ["bundle"] (defScope sAll) := ⟨rfl, rfl, rfl, by decide +kernel, rfl, by decide +kernel, by decide +kernel⟩
def spAll (K : PySem.W.Frag) : Sp := fun vs H Q _ => ∃ (b : Addr) (n : Int) (cs : List (List Int)), vs = [.ref b] ∧ Bun K H b n cs ∧ GoodB n cs ∧
  ∀ H' d kvs, Same H H' → H d = none → H' d = some (.dK kvs) → LeadK (LL n cs) cs.length H' kvs → Q (.ref d) H'
theorem rgV_upto (m : Nat) : rgV 0 (m : Int) = (upto m).map V.int := by
  unfold rgV upto
  rw [List.map_map]
  have : ((m : Int) - 0).toNat = m := by omega
  rw [this]
  refine List.map_congr_left fun i _ => ?_
  show V.int (0 + (i : Int)) = V.int (i : Int)
  rw [Int.zero_add]
theorem rgV_oneTo (n : Int) : rgV 1 (n + 1) = (oneTo n).map V.int := by
  unfold rgV oneTo
  rw [List.map_map]
  have : (n + 1 - 1).toNat = n.toNat := by omega
  rw [this]
  rfl
theorem ok_all (G : Glo mg) (cL : Cal P w K mg base 2 "leads_of" (spLeads K)) (D : Def K mg "all_leads" sAll ["bundle"]) : Cal P w K mg base 3 "all_leads" (spAll K) := by
  refine cal D scAll (fun vs H Q E h => ?_) (fun f cdv A outer s H vs Q E hr h => ?_)
  · obtain ⟨b, n, cs, rfl, _⟩ := h
    rfl
  obtain ⟨b, n, cs, rfl, hB, hg, q⟩ := h
  refine ⟨_, pss_one (ps_ret (pe_c cL hr (pa_cons (pv 0) (pa_cons (pe_listRg rfl (by rfl) G.list (prg_1 (by rfl) G.range (pe_callB call_len_seq (by rfl) G.len b_len (pa_cons (pe_ix ix_tup (pv 0) pe_int (fun _ _ => rfl)) pa_nil))))
    (pa_cons (pe_listRg rfl (by rfl) G.list (prg_2 (by rfl) G.range pe_int (pe_op op_add (pe_ix ix_tup (pv 0) pe_int (fun _ _ => rfl)) pe_int))) pa_nil))))), ?_⟩
  obtain ⟨c, xs, a1, a2, a3⟩ := id hB
  have hl : xs.length = cs.length := Paired.length a3
  have hlen := hg.len
  have hn1 := hg.n1
  have hn7 := hg.n7
  refine ⟨_, rfl, _, rfl, b, _, _, _, rfl, rfl, a1, atI_nat (xs := [V.int n, V.ref c]) (j := 1) rfl, c, _, rfl, .inr a2, _, rfl, RgOk.of_le (by omega) (by omega) (by omega) (by omega), fun p hp => ?_⟩
  have s1 := same_new (.lst (rgV 0 (xs.length : Int))) hp
  refine ⟨_, rfl, b, _, _, _, rfl, rfl, Same.tup s1 a1, atI_nat (xs := [V.int n, V.ref c]) (j := 0) rfl, _, _, rfl, rfl, _, _, rfl, rfl, RgOk.of_le (by omega) (by omega) (by omega) (by omega), fun p2 hp2 => ?_⟩
  have s2 := same_new (.lst (rgV 1 (n + 1))) hp2
  refine ⟨b, p, p2, n, cs, rfl, (hB.same s1).same s2, hg, SqL.of (s2 _ _ ?_), SqL.of ?_, fun H' d kvs s3 nd => q H' d kvs ((s1.trans s2).trans s3) ((s1.trans s2).free nd)⟩
  · rw [upd_same, hl, rgV_upto]
  · rw [upd_same, rgV_oneTo]
end
end IdW
end
section
set_option maxRecDepth 100000
namespace IdW
open PySem PySem.Spec PyProof.Rows L2 IdR RZ Idle
/-! ### what can't be written stands as before -/
def Ext (H H' : Hp) : Prop := ∀ b o, H b = some o → ¬ Mut (some o) → H' b = some o
theorem Ext.refl (H : Hp) : Ext H H := fun _ _ h _ => h
theorem Ext.trans {H H1 H2 : Hp} (a : Ext H H1) (b : Ext H1 H2) : Ext H H2 := fun c o h n => b c o (a c o h n) n
theorem Ext.of {H H' : Hp} (s : Same H H') : Ext H H' := fun b o h _ => s b o h
theorem Ext.upd {H : Hp} {a : Addr} {o' : HO} (h : ∀ o, H a = some o → Mut (some o)) : Ext H (upd H a o') := fun b o e n => by
  rw [upd_ne (fun z => n (by rw [z] at e; exact h o e))]
  exact e
theorem Ext.but {B : List Addr} {H H' : Hp} (k : But B H H') (h : ∀ b ∈ B, ∀ o, H b = some o → Mut (some o)) : Ext H H' := fun b o e n => k b o (fun z => n (h b z o e)) e
theorem SqT.ext {K : PySem.W.Frag} {H H' : Hp} {a : Addr} {xs : List V} (e : Ext H H') (h : SqT K H a xs) : SqT K H' a xs := by
  rcases h with (h | ⟨o, h⟩) | h
  · exact .inl (.inl (e _ _ h fun z => z))
  · exact .inl (.inr ⟨o, e _ _ h fun z => z⟩)
  · exact .inr h
theorem RowsAt.ext {K : PySem.W.Frag} {H H' : Hp} {xs : List V} {cs : List (List Int)} (e : Ext H H') (h : RowsAt K H xs cs) : RowsAt K H' xs cs := L2.Paired.mapP h fun x c r => let ⟨a, e1, q⟩ := r; ⟨a, e1, SqT.ext e q⟩
theorem Bun.ext {K : PySem.W.Frag} {H H' : Hp} {b : Addr} {n : Int} {cs : List (List Int)} (e : Ext H H') (h : Bun K H b n cs) : Bun K H' b n cs := let ⟨c, xs, h1, h2, h3⟩ := h; ⟨c, xs, SqT.ext e h1, SqT.ext e h2, RowsAt.ext e h3⟩
theorem PairAt.ext {H H' : Hp} {x : V} {p : Int × Int} (e : Ext H H') (h : PairAt H x p) : PairAt H' x p := let ⟨t, e1, q⟩ := h; ⟨t, e1, e _ _ q fun z => z⟩
theorem PairsAt.ext {H H' : Hp} {xs : List V} {ps : List (Int × Int)} (e : Ext H H') (h : PairsAt H xs ps) : PairsAt H' xs ps := L2.Paired.mapP h fun _ _ r => r.ext e
theorem pairs_snoc {H : Hp} {x : V} {p : Int × Int} : ∀ {xs : List V} {ps : List (Int × Int)}, PairsAt H xs ps → PairAt H x p → PairsAt H (xs ++ [x]) (ps ++ [p])
  | _, _, .nil, h => .cons h .nil
  | _, _, .cons r t, h => .cons r (pairs_snoc t h)
theorem mutL {H : Hp} {a : Addr} {xs : List V} (h : H a = some (.lst xs)) : ∀ o, H a = some o → Mut (some o) := fun o e => by rw [h] at e; cases e; exact True.intro
theorem mutD {H : Hp} {a : Addr} {xs : List (Key × V)} (h : H a = some (.dK xs)) : ∀ o, H a = some o → Mut (some o) := fun o e => by rw [h] at e; cases e; exact True.intro
theorem mutN {H : Hp} {a : Addr} (h : H a = none) : ∀ o, H a = some o → Mut (some o) := fun o e => by rw [h] at e; cases e
def lit (cs : List (List Int)) (x c : Int) : Int := if x ∈ row cs c then x else 0 - x
def pairsB (cs : List (List Int)) (B : Ties) : List (Int × Int) := B.map fun p => (p.2, lit cs p.1 p.2)
section
variable {P : Program} {w : World} {K : PySem.W.Frag} {mg : Str → Option Value} {base : Heap} {L : Int → List Int} {m : Nat}
abbrev sPairs : Stmt := top 22
theorem scPairs : FnScope ["bundle", "back", "found", "name", "number", "literal"] ["bundle", "back"] (defScope sPairs) := ⟨rfl, rfl, rfl, by decide +kernel, rfl, by decide +kernel, by decide +kernel⟩
def spPairs (K : PySem.W.Frag) : Sp := fun vs H Q _ => ∃ (b k : Addr) (n : Int) (cs : List (List Int)) (B : Ties), vs = [.ref b, .ref k] ∧ Bun K H b n cs ∧ H k = some (.dK (dB B)) ∧ (∀ p ∈ B, 0 ≤ p.2 ∧ p.2 < cs.length) ∧ B.length ≤ 7 ∧
  ∀ H' p xs ps, Same H H' → ps.Perm (pairsB cs B) → ps.Pairwise LeP → TupP H' p xs → PairsAt H' xs ps → Q (.ref p) H'
theorem ok_pairs (G : Glo mg) (D : Def K mg "pairs_by" sPairs ["bundle", "back"]) : Cal P w K mg base 1 "pairs_by" (spPairs K) := by
  refine cal D scPairs (fun vs H Q E h => ?_) (fun f cdv A outer s H vs Q E hr h => ?_)
  · obtain ⟨b, k, n, cs, B, rfl, _⟩ := h
    rfl
  obtain ⟨b, k, n, cs, B, rfl, hB, hk, hv, h7, q⟩ := h
  refine ⟨_, pss_cons (ps_set (i := 2) scPairs.nd rfl (.inl rfl) (pe_lst pa_nil))
    (pss_cons (ps_lock (ps_for PassesOwn.never rfl (pi_items (pv 1)) (pg_tup rfl (pgs_cons (pg_name (i := 3) scPairs.nd rfl (.inl rfl)) (pgs_cons (pg_name (i := 4) scPairs.nd rfl (.inl rfl)) pgs_nil)))
      (pss_cons (ps_set (i := 5) scPairs.nd rfl (.inl rfl) (pe_ifExp (pt_cmpR op_in_seq (pv 3) (pe_ix ix_tup (pe_ix ix_tup (pv 0) pe_int (fun _ _ => rfl)) (pv 4) (fun _ _ => rfl)) rfl) (pv 3) (pe_op op_sub pe_int (pv 3))))
      (pss_one (ps_expr (pe_bm PySem.F.plainAttrs_list PySem.F.slot_list_append PySem.F.type_list_append mt_append (pv 2) (pa_cons (pe_tup (pa_cons (pv 4) (pa_cons (pv 5) pa_nil))) pa_nil)))))))
    (pss_one (ps_ret (pe_callTy call_tupleF (by rfl) G.tuple b_tuple (pa_cons (pe_callB cr_sortP (by rfl) G.sorted b_sorted (pa_cons (pv 2) pa_nil)) pa_nil))))), ?_⟩
  refine ⟨(by show 0 ≤ sizeLine; decide), fun l hl => ?_⟩
  have hkl : k ≠ l := ne_of_none hk hl
  have s1 := same_new (.lst []) hl
  refine ⟨k, _, s1 _ _ hk, True.intro, fun od => ?_⟩
  refine ⟨_, rfl, k, od, _, rfl, upd_same, ?_⟩
  have e0 : Ext H (upd (upd H l (.lst [])) k (.frz od (.dK (dB B)))) := (Ext.of s1).trans (Ext.upd (mutD (s1 _ _ hk)))
  refine for_y (y_items (d := k) (o := od) (kvs := dB B)).map (fun done σ H2 => But [l] (upd (upd H l (.lst [])) k (.frz od (.dK (dB B)))) H2 ∧ (∃ acc, H2 l = some (.lst acc) ∧ PairsAt H2 acc (pairsB cs done)) ∧ ∃ u v z, σ = [some (.ref b), some (.ref k), some (.ref l), u, v, z])
    ⟨But.refl _, ⟨[], by rw [upd_ne hkl.symm]; exact upd_same, .nil⟩, _, _, _, rfl⟩ (fun done rest σ H2 _ p => p.1 k _ (by simp [hkl]) upd_same) (fun done p rest x σ H2 H3 e p0 s hx => ?_) fun σ H2 p => ?_
  · obtain ⟨T, rfl, hT⟩ := hx
    obtain ⟨p1, ⟨acc, p2, p3⟩, u, v, z, rfl⟩ := p0
    have hp : p ∈ B := by rw [e]; simp
    obtain ⟨i0, i1⟩ := hv p hp
    have p1' := p1.trans (But.of s)
    have ml : ∀ b ∈ [l], ∀ o, (upd (upd H l (.lst [])) k (.frz od (.dK (dB B)))) b = some o → Mut (some o) := fun b hb o eo => by
      rw [List.mem_singleton.mp hb, upd_ne hkl.symm, upd_same] at eo
      cases eo
      exact True.intro
    have hB3 := hB.ext (e0.trans (Ext.but p1' ml))
    obtain ⟨c, xs, ya, a1, a2, a3, a4, _⟩ := hB3.row i0 i1
    refine ⟨T, _, rfl, SqT.of hT, rfl, _, _, rfl, _, _, rfl, rfl, ?_⟩
    have hlen : B.length = done.length + (rest.length + 1) := by rw [e, List.length_append, List.length_cons]
    have hacc : acc.length = done.length := by
      have := Paired.length p3
      unfold pairsB at this
      rwa [List.length_map] at this
    have fin : ∀ (H4 : Hp), Same H3 H4 → ∀ T2, H4 T2 = some (.tup [.int p.2, .int (lit cs p.1 p.2)]) → ∀ u v z : Option V,
        But [l] (upd (upd H l (.lst [])) k (.frz od (.dK (dB B)))) (upd H4 l (.lst (acc ++ [V.ref T2]))) ∧ (∃ acc', (upd H4 l (.lst (acc ++ [V.ref T2]))) l = some (.lst acc') ∧ PairsAt (upd H4 l (.lst (acc ++ [V.ref T2]))) acc' (pairsB cs (done ++ [p]))) ∧
          ∃ u' v' z', ([some (V.ref b), some (V.ref k), some (V.ref l), u, v, z] : L2.St) = [some (V.ref b), some (V.ref k), some (V.ref l), u', v', z'] := fun H4 s4 T2 h2 u v z => by
      have l4 := s4 _ _ (s _ _ p2)
      have e4 : Ext H4 (upd H4 l (.lst (acc ++ [.ref T2]))) := Ext.upd (mutL l4)
      refine ⟨but_upd (p1'.trans (But.of s4)) (by simp), ⟨_, upd_same, ?_⟩, u, v, z, rfl⟩
      unfold pairsB
      rw [List.map_append]
      exact pairs_snoc (PairsAt.ext (((Ext.of s).trans (Ext.of s4)).trans e4) p3) ⟨T2, rfl, e4 _ _ h2 fun z => z⟩
    have hsz : acc.length < sizeLine := small1000 (by omega)
    refine ⟨_, rfl, _, rfl, b, _, _, _, rfl, rfl, a1, atI_nat (xs := [V.int n, V.ref c]) (j := 1) rfl, _, rfl, c, xs, _, _, rfl, rfl, a2, a3, ya, _, rfl, .inr a4, rfl, flat_ints _, _, rfl, ?_⟩
    show if inV (.int p.1) ((row cs p.2).map V.int) = true then _ else _
    rw [inV_int]
    by_cases hm : p.1 ∈ row cs p.2
    · rw [decide_eq_true hm]
      refine iteT ⟨_, rfl, _, rfl, .inl ⟨rfl, _, SqL.of (s _ _ p2)⟩, _, rfl, _, rfl, (by show 2 ≤ sizeLine; decide), fun T2 hT2 => ?_⟩
      have s4 := same_new (.tup [V.int p.2, V.int p.1]) hT2
      refine ⟨l, _, _, rfl, rfl, s4 _ _ (s _ _ p2), hsz, ?_⟩
      exact fin _ s4 T2 (by rw [upd_same]; unfold lit; rw [if_pos hm]) _ _ _
    · rw [decide_eq_false hm]
      refine iteF ⟨_, rfl, _, _, rfl, rfl, _, rfl, .inl ⟨rfl, _, SqL.of (s _ _ p2)⟩, _, rfl, _, rfl, (by show 2 ≤ sizeLine; decide), fun T2 hT2 => ?_⟩
      have s4 := same_new (.tup [V.int p.2, V.int (0 - p.1)]) hT2
      refine ⟨l, _, _, rfl, rfl, s4 _ _ (s _ _ p2), hsz, ?_⟩
      exact fin _ s4 T2 (by rw [upd_same]; unfold lit; rw [if_neg hm]) _ _ _
  · obtain ⟨p1, ⟨acc, p2, p3⟩, u, v, z, rfl⟩ := p
    have hk2 := p1 k _ (by simp [hkl]) upd_same
    have l3 : (upd H2 k (.dK (dB B))) l = some (.lst acc) := by rw [upd_ne hkl.symm]; exact p2
    have p3' : PairsAt (upd H2 k (.dK (dB B))) acc (pairsB cs B) := L2.Paired.mapP p3 fun x p r => by
      obtain ⟨t, e1, e2⟩ := r
      exact ⟨t, e1, by rw [upd_ne (ne_of e2 hk2 fun z => by cases z)]; exact e2⟩
    have sF : Same H (upd H2 k (.dK (dB B))) := fun a o ea => by
      by_cases e : a = k
      · rw [e] at ea ⊢
        rw [hk] at ea
        cases ea
        exact upd_same
      · rw [upd_ne e]
        exact p1 a o (by simp [ne_of_none ea hl]) (by rw [upd_ne e]; exact s1 _ _ ea)
    refine ⟨hk2, _, rfl, l, acc, pairsB cs B, rfl, SqL.of l3, p3', fun ys p qs hp hs hy hn => ?_⟩
    have s4 := same_new (.lst ys) hn
    refine ⟨p, ys, rfl, SqL.of upd_same, fun r o ho hr => ?_⟩
    have s5 := same_new (.frz o (.tup ys)) hr
    exact q _ r ys qs ((sF.trans s4).trans s5) hp hs ⟨o, ho, upd_same⟩ (PairsAt.same (s4.trans s5) hy)
end
end IdW
end
section
set_option maxRecDepth 100000
namespace IdW
open PySem PySem.Spec PyProof.Rows L2 IdR RZ Idle
/-! ### the ties of a good bundle -/
theorem few_LL {n : Int} {cs : List (List Int)} (hg : GoodB n cs) : Few (LL n cs) [] 8 := by
  refine ⟨oneTo n, ?_, fun c x hx => .inr ?_⟩
  · rw [oneTo_len]
    have := hg.n7
    omega
  · exact mem_oneTo.mpr (mem_LL.mp hx).1
theorem in7_LL {n : Int} {cs : List (List Int)} (hg : GoodB n cs) : In7 (LL n cs) := fun c x hx => by
  have := (mem_LL.mp hx).1
  have := hg.n7
  omega
def tiesB (n : Int) (cs : List (List Int)) : Ties := tiesOf (LL n cs) 8 (upto cs.length)
theorem tiesB_ok {n : Int} {cs : List (List Int)} (hg : GoodB n cs) : TiesOk (LL n cs) (upto cs.length) (tiesB n cs) := ties_ok (few_LL hg) _ (upto_nodup _)
theorem tiesB_num {n : Int} {cs : List (List Int)} (hg : GoodB n cs) : ∀ p ∈ tiesB n cs, 0 ≤ p.2 ∧ p.2 < cs.length := fun p hp => mem_upto.mp ((tiesB_ok hg).sub p hp)
theorem tiesB_len {n : Int} {cs : List (List Int)} (hg : GoodB n cs) : (tiesB n cs).length ≤ 7 := by
  have := (okB_of (tiesB_ok hg) fun c hc => mem_upto.mp hc).len (in7_LL hg)
  unfold dB at this
  rwa [List.length_map] at this
def matchB (n : Int) (cs : List (List Int)) : List (Int × Int) := pairsB cs (tiesB n cs)
section
variable {P : Program} {w : World} {K : PySem.W.Frag} {mg : Str → Option Value} {base : Heap}
abbrev sGreat : Stmt := top 24
theorem scGreat : FnScope ["bundle"] ["bundle"] (defScope sGreat) := ⟨rfl, rfl, rfl, by decide +kernel, rfl, by decide +kernel, by decide +kernel⟩
def spGreat (K : PySem.W.Frag) : Sp := fun vs H Q _ => ∃ (b : Addr) (n : Int) (cs : List (List Int)), vs = [.ref b] ∧ Bun K H b n cs ∧ GoodB n cs ∧
  ∀ H' p xs ps, Same H H' → ps.Perm (matchB n cs) → ps.Pairwise LeP → TupP H' p xs → PairsAt H' xs ps → Q (.ref p) H'
theorem ok_great (cN : Cal P w K mg base 4 "need_bundle" (spNeedB K)) (cA : Cal P w K mg base 3 "all_leads" (spAll K)) (cT : ∀ L m, In7 L → Cal P w K mg base 9 "ties_of" (spTies L m)) (cP : Cal P w K mg base 1 "pairs_by" (spPairs K)) (D : Def K mg "greatest_matching" sGreat ["bundle"]) : Cal P w K mg base 10 "greatest_matching" (spGreat K) := by
  refine cal D scGreat (fun vs H Q E h => ?_) (fun f cdv A outer s H vs Q E hr h => ?_)
  · obtain ⟨b, n, cs, rfl, _⟩ := h
    rfl
  obtain ⟨b, n, cs, rfl, hB, hg, q⟩ := h
  refine ⟨_, pss_one (ps_ret (pe_c cP hr (pa_cons (pe_c cN hr (pa_cons (pv 0) pa_nil)) (pa_cons (pe_c (cT (LL n cs) cs.length (in7_LL hg)) hr (pa_cons (pe_c cA hr (pa_cons (pv 0) pa_nil)) pa_nil)) pa_nil)))), ?_⟩
  refine ⟨_, rfl, b, n, cs, rfl, hB, hg, fun H1 s1 => ⟨_, rfl, b, n, cs, rfl, hB.same s1, hg, fun H2 d kvs s2 _ e2 k2 => ?_⟩⟩
  have := hg.len
  refine ⟨d, kvs, rfl, e2, k2, few_LL hg, in7_LL hg, by omega, fun H3 p s3 e3 => ?_⟩
  exact ⟨b, p, n, cs, tiesB n cs, rfl, ((hB.same s1).same s2).same s3, e3, tiesB_num hg, tiesB_len hg, fun H4 r xs ps s4 => q H4 r xs ps (((s1.trans s2).trans s3).trans s4)⟩
/-! ### is_matching -/
structure GoodM (cs : List (List Int)) (ps : List (Int × Int)) : Prop where
  num : ∀ p ∈ ps, 0 ≤ p.1 ∧ p.1 < cs.length
  lit : ∀ p ∈ ps, p.2 ∈ row cs p.1
  asc : (ps.map (·.1)).Pairwise (· < ·)
  nd : (ps.map fun p => ab p.2).Nodup
theorem GoodM.lit1 {n : Int} {cs : List (List Int)} {ps : List (Int × Int)} (hg : GoodB n cs) (h : GoodM cs ps) : ∀ p ∈ ps, 1 ≤ ab p.2 ∧ ab p.2 ≤ n := fun p hp =>
  (hg.lit _ (row_mem (h.num p hp).1 (h.num p hp).2).2).1 _ (h.lit p hp)
theorem GoodM.len {n : Int} {cs : List (List Int)} {ps : List (Int × Int)} (hg : GoodB n cs) (h : GoodM cs ps) : ps.length ≤ 7 := by
  have := rng7 h.nd fun x hx => by
    obtain ⟨p, hp, e⟩ := List.mem_map.mp hx
    have := h.lit1 hg p hp
    have := hg.n7
    omega
  rwa [List.length_map] at this
abbrev sIsM : Stmt := top 25
theorem scIsM : FnScope ["bundle", "thing", "number", "literal", "names", "one"] ["bundle", "thing"] (defScope sIsM) := ⟨rfl, rfl, rfl, by decide +kernel, rfl, by decide +kernel, by decide +kernel⟩
def spIsM (K : PySem.W.Frag) : Sp := fun vs H Q _ => ∃ (b t : Addr) (n : Int) (cs : List (List Int)) (xs : List V) (ps : List (Int × Int)), vs = [.ref b, .ref t] ∧ Bun K H b n cs ∧ GoodB n cs ∧ SqT K H t xs ∧ PairsAt H xs ps ∧ GoodM cs ps ∧ ∀ H', Same H H' → Q (.bl true) H'
theorem call_isiK {X : Cx} (K : PySem.W.Frag) (h : X.K = K := by rfl) : CallR X (.builtin "isinstance") (rIsi K) := by
  subst h
  exact call_isi
def rLenT (K : PySem.W.Frag) : List V → Hp → VK → Prop := fun xs H Q => ∃ p ys, xs = [.ref p] ∧ (SqL K H p ys ∨ SqT K H p ys) ∧ Q (.int ys.length) H
theorem call_lenK {X : Cx} (K : PySem.W.Frag) (h : X.K = K := by rfl) : CallR X (.builtin "len") (rLenT K) := by
  subst h
  exact call_len_seq
theorem y_pairs {a : Addr} {xs : List V} {ps : List (Int × Int)} : Yields (Itt K a) (fun H => SqT K H a xs ∧ PairsAt H xs ps) ps (fun p x H => PairAt H x p) :=
  (y_tup (K := K) (a := a) (xs := xs)).paired (R := PairAt) (bs := ps) fun H H' v b s r => PairAt.ext (Ext.of s) r
theorem ok_ism (G : Glo mg) (cB : Cal P w K mg base 2 "is_between" spBetween) (cL : Cal P w K mg base 2 "is_literal" spLit) (cR : Cal P w K mg base 1 "are_rising" (spRising K)) (D : Def K mg "is_matching" sIsM ["bundle", "thing"]) : Cal P w K mg base 3 "is_matching" (spIsM K) := by
  refine cal D scIsM (fun vs H Q E h => ?_) (fun f cdv A outer s H vs Q E hr h => ?_)
  · obtain ⟨b, t, n, cs, xs, ps, rfl, _⟩ := h
    rfl
  obtain ⟨b, t, n, cs, xs, ps, rfl, hB, hg, ht, hp, hm, q⟩ := h
  refine ⟨_, pss_cons (ps_if (PW.pt (pw_or (pt_not (pt_val (pe_callB call_isi (by rfl) G.isinstance b_isinstance (pa_cons (pv 1) (pa_cons (pe_bltn (v := .ty "tuple") (by rfl) G.tuple b_tuple rfl) pa_nil)))))
      (pw_or1 (pt_not (pt_val (pe_callB (cr_all rfl) (by rfl) G.all b_all (pa_cons
        (pe_lc (own := [("one", 5)]) (g := gName 5) (tt := tYes) rfl scIsM.nd (pi_tup (pv 1)) (blkOk_by (N := ["bundle", "thing", "number", "literal", "names", "one"]) (sc := defScope sIsM) (by decide +kernel))
          (fun _ _ _ _ _ => pg_name (i := 5) scIsM.nd rfl (Or.inl rfl) (Or.inr rfl)) (fun _ _ _ _ _ => pts_nil)
          (fun _ _ _ _ _ => pe_and (pe_callB (call_isiK K) (by rfl) G.isinstance b_isinstance (pa_cons (pv 5) (pa_cons (pe_bltn (v := .ty "tuple") (by rfl) G.tuple b_tuple rfl) pa_nil))) (pe_one (pe_cmpR op_eq (pe_callB (call_lenK K) (by rfl) G.len b_len (pa_cons (pv 5) pa_nil)) pe_int (nomark _))))) pa_nil)))))) ) (pss_one (ps_ret pe_bl)) pss_nil)
    (pss_cons (ps_for PassesOwn.never rfl (pi_tup (pv 1)) (pg_tup rfl (pgs_cons (pg_name (i := 2) scIsM.nd rfl (.inl rfl)) (pgs_cons (pg_name (i := 3) scIsM.nd rfl (.inl rfl)) pgs_nil)))
      (pss_cons (ps_if (PW.pt (pw_or (pt_not (pt_val (pe_c cB hr (pa_cons (pv 2) (pa_cons pe_int (pa_cons (pe_op op_sub (pe_callB call_len_seq (by rfl) G.len b_len (pa_cons (pe_ix ix_tup (pv 0) pe_int (fun _ _ => rfl)) pa_nil)) pe_int) pa_nil))))))
          (pw_or1 (pt_not (pt_val (pe_c cL hr (pa_cons (pe_ix ix_tup (pv 0) pe_int (fun _ _ => rfl)) (pa_cons (pv 3) pa_nil)))))))) (pss_one (ps_ret pe_bl)) pss_nil)
      (pss_one (ps_if (pt_cmpR op_notIn_seq (pv 3) (pe_ix ix_tup (pe_ix ix_tup (pv 0) pe_int (fun _ _ => rfl)) (pv 2) (fun _ _ => rfl)) rfl) (pss_one (ps_ret pe_bl)) pss_nil))))
    (pss_cons (ps_set (i := 4) scIsM.nd rfl (.inl rfl) (pe_callB cr_sorted (by rfl) G.sorted b_sorted (pa_cons
        (pe_lc (own := [("number", 2), ("literal", 3)]) (g := gTup K 2 (gCons (gName 2) (gCons (gName 3) gNil))) (tt := tYes) rfl scIsM.nd (pi_tup (pv 1)) (blkOk_by (N := ["bundle", "thing", "number", "literal", "names", "one"]) (sc := defScope sIsM) (by decide +kernel))
          (fun _ _ _ _ _ => pg_tup rfl (pgs_cons (pg_name (i := 2) scIsM.nd rfl (Or.inl rfl) (Or.inr rfl)) (pgs_cons (pg_name (i := 3) scIsM.nd rfl (Or.inl rfl) (Or.inr rfl)) pgs_nil))) (fun _ _ _ _ _ => pts_nil)
          (fun _ _ _ _ _ => pe_callB call_abs (by rfl) G.abs b_abs (pa_cons (pv 3) pa_nil))) pa_nil)))
    (pss_one (ps_ret (pe_and (pe_c cR hr (pa_cons
        (pe_lc (own := [("number", 2), ("literal", 3)]) (g := gTup K 2 (gCons (gName 2) (gCons (gName 3) gNil))) (tt := tYes) rfl scIsM.nd (pi_tup (pv 1)) (blkOk_by (N := ["bundle", "thing", "number", "literal", "names", "one"]) (sc := defScope sIsM) (by decide +kernel))
          (fun _ _ _ _ _ => pg_tup rfl (pgs_cons (pg_name (i := 2) scIsM.nd rfl (Or.inl rfl) (Or.inr rfl)) (pgs_cons (pg_name (i := 3) scIsM.nd rfl (Or.inl rfl) (Or.inr rfl)) pgs_nil))) (fun _ _ _ _ _ => pts_nil)
          (fun _ _ _ _ _ => pv 2)) pa_nil)) (pe_one (pe_c cR hr (pa_cons (pv 4) pa_nil)))))))), ?_⟩
  have lp := hm.len hg
  refine ⟨_, rfl, _, _, _, _, _, rfl, .ty "tuple", ty_tup ht, k_tup_tup, _, rfl, iteF ?_⟩
  refine ⟨_, rfl, t, rfl, ⟨_, ht⟩, fun D hD => ?_⟩
  refine lc_map (y_pairs (K := K) (a := t)) hD (fun H2 s2 => ⟨Same.tup s2 ht, PairsAt.same s2 hp⟩) (fun _ => .bl true) (by omega) (fun p x H2 hmem s2 hx R R' hR => ?_) fun H2 s2 e => ?_
  · obtain ⟨T, rfl, hT⟩ := hx
    refine ⟨rfl, yes ⟨_, rfl, _, _, _, _, _, rfl, .ty "tuple", ty_tup (SqT.of hT), k_tup_tup, _, rfl, iteT ?_⟩⟩
    refine ⟨_, rfl, T, _, rfl, .inr (SqT.of hT), rfl, ?_⟩
    exact qbl rfl (hR H2 (Same.refl _))
  refine ⟨D, _, rfl, bls_true e, _, rfl, ?_⟩
  rw [all_true]
  refine iteF ?_
  refine ⟨_, rfl, t, rfl, ⟨_, Same.tup s2 ht⟩, ?_⟩
  refine for_y (y_pairs (K := K) (a := t) (xs := xs) (ps := ps)) (fun done σ H3 => Same H H3 ∧ ∃ u v, σ = [some (V.ref b), some (V.ref t), u, v, none, none]) ⟨s2, none, none, rfl⟩ (fun _ _ σ H3 _ p => ⟨Same.tup p.1 ht, PairsAt.same p.1 hp⟩) (fun done p rest x σ H3 H4 e p0 s hx => ?_) fun σ H3 p => ?_
  · obtain ⟨T, rfl, hT⟩ := hx
    obtain ⟨p1, u, v, rfl⟩ := p0
    have s4 := p1.trans s
    have hmem : p ∈ ps := by rw [e]; simp
    obtain ⟨i0, i1⟩ := hm.num p hmem
    obtain ⟨l1, l2⟩ := hm.lit1 hg p hmem
    obtain ⟨c, ys, ya, a1, a2, a3, a4, hl⟩ := (hB.same s4).row i0 i1
    refine ⟨T, _, rfl, SqT.of hT, rfl, _, _, rfl, _, _, rfl, rfl, ?_⟩
    refine ⟨_, rfl, _, rfl, b, _, _, _, rfl, rfl, a1, atI_nat (xs := [V.int n, V.ref c]) (j := 1) rfl, c, _, rfl, .inr a2, _, _, rfl, rfl, p.1, 0, _, rfl, i0, (by omega), _, rfl, iteF ?_⟩
    refine ⟨_, rfl, b, _, _, _, rfl, rfl, a1, atI_nat (xs := [V.int n, V.ref c]) (j := 0) rfl, _, rfl, n, p.2, rfl, l1, l2, _, rfl, iteF ?_⟩
    refine ⟨_, rfl, _, rfl, b, _, _, _, rfl, rfl, a1, atI_nat (xs := [V.int n, V.ref c]) (j := 1) rfl, _, rfl, c, ys, _, _, rfl, rfl, a2, a3, ya, _, rfl, .inr a4, rfl, flat_ints _, _, rfl, ?_⟩
    show if (!inV (.int p.2) ((row cs p.1).map V.int)) = true then _ else _
    rw [inV_int]
    exact iteNS (hm.lit p hmem) ⟨s4, _, _, rfl⟩
  · obtain ⟨p1, u, v, rfl⟩ := p
    have ht3 := Same.tup p1 ht
    have hp3 := PairsAt.same p1 hp
    refine ⟨_, rfl, t, rfl, ⟨_, ht3⟩, fun D2 hD2 => ?_⟩
    refine lc_map (y_pairs (K := K) (a := t)) hD2 (fun H4 s4 => ⟨Same.tup s4 ht3, PairsAt.same s4 hp3⟩) (fun p => .int (ab p.2)) (by omega) (fun p x H4 hmem s4 hx R R' hR => ?_) fun H4 s4 e4 => ?_
    · obtain ⟨T, rfl, hT⟩ := hx
      exact ⟨T, _, rfl, SqT.of hT, rfl, _, _, rfl, _, _, rfl, rfl, rfl, yes ⟨_, rfl, p.2, rfl, hR H4 (Same.refl _)⟩⟩
    refine ⟨D2, ps.map fun p => ab p.2, rfl, SqL.of (by rw [e4, List.map_map]; rfl), by rw [List.length_map]; omega, fun ns r pm sr hr => ?_⟩
    have s5 := same_new (.lst (ns.map V.int)) hr
    have ht5 := Same.tup (s4.trans s5) ht3
    have hp5 := PairsAt.same (s4.trans s5) hp3
    refine ⟨_, rfl, t, rfl, ⟨_, ht5⟩, fun D3 hD3 => ?_⟩
    refine lc_map (y_pairs (K := K) (a := t)) hD3 (fun H6 s6 => ⟨Same.tup s6 ht5, PairsAt.same s6 hp5⟩) (fun p => .int p.1) (by omega) (fun p x H6 hmem s6 hx R R' hR => ?_) fun H6 s6 e6 => ?_
    · obtain ⟨T, rfl, hT⟩ := hx
      exact ⟨T, _, rfl, SqT.of hT, rfl, _, _, rfl, _, _, rfl, rfl, rfl, yes ⟨_, rfl, hR H6 (Same.refl _)⟩⟩
    refine ⟨D3, ps.map (·.1), rfl, .inl (SqL.of (by rw [e6, List.map_map]; rfl)), hm.asc, by rw [List.length_map]; omega, fun H7 s7 => ⟨_, rfl, iteT ?_⟩⟩
    refine ⟨_, rfl, r, ns, rfl, .inl (SqL.of (s7 _ _ (s6 _ _ upd_same))), asc_of sr (pm.nodup_iff.mpr hm.nd), by rw [pm.length_eq, List.length_map]; omega, fun H8 s8 => ?_⟩
    exact q H8 (((((p1.trans s4).trans s5).trans s6).trans s7).trans s8)
end
end IdW
end
section
set_option maxRecDepth 100000
namespace IdW
open PySem PySem.Spec PyProof.Rows L2 IdR RZ Idle
section
variable {P : Program} {w : World} {K : PySem.W.Frag} {mg : Str → Option Value} {base : Heap}
/-! ### setting_by -/
abbrev sSet : Stmt := top 26
theorem scSet : FnScope ["bundle", "matching", "number", "literal"] ["bundle", "matching"] (defScope sSet) := ⟨rfl, rfl, rfl, by decide +kernel, rfl, by decide +kernel, by decide +kernel⟩
def spSet (K : PySem.W.Frag) : Sp := fun vs H Q _ => ∃ (b t : Addr) (n : Int) (cs : List (List Int)) (xs : List V) (ps : List (Int × Int)), vs = [.ref b, .ref t] ∧ Bun K H b n cs ∧ GoodB n cs ∧ SqT K H t xs ∧ PairsAt H xs ps ∧ GoodM cs ps ∧
  ∀ H' p (qs : List (Int × Int)), Same H H' → qs.Perm (pairsOf (ps.map (·.2))) → qs.Pairwise LeP → H' p = some (.tup (qs.map fun q => V.int q.2)) → Q (.ref p) H'
theorem ok_set (cN : Cal P w K mg base 4 "need_bundle" (spNeedB K)) (cM : Cal P w K mg base 3 "is_matching" (spIsM K)) (cY : Cal P w K mg base 1 "by_names" (spBy K)) (D : Def K mg "setting_by" sSet ["bundle", "matching"]) : Cal P w K mg base 5 "setting_by" (spSet K) := by
  refine cal D scSet (fun vs H Q E h => ?_) (fun f cdv A outer s H vs Q E hr h => ?_)
  · obtain ⟨b, t, n, cs, xs, ps, rfl, _⟩ := h
    rfl
  obtain ⟨b, t, n, cs, xs, ps, rfl, hB, hg, ht, hp, hm, q⟩ := h
  refine ⟨_, pss_cons (ps_if (pt_not (pt_val (pe_c cM hr (pa_cons (pe_c cN hr (pa_cons (pv 0) pa_nil)) (pa_cons (pv 1) pa_nil))))) pss_never pss_nil)
    (pss_one (ps_ret (pe_c cY hr (pa_cons
        (pe_lc (own := [("number", 2), ("literal", 3)]) (g := gTup K 2 (gCons (gName 2) (gCons (gName 3) gNil))) (tt := tYes) rfl scSet.nd (pi_tup (pv 1)) (blkOk_by (N := ["bundle", "matching", "number", "literal"]) (sc := defScope sSet) (by decide +kernel))
          (fun _ _ _ _ _ => pg_tup rfl (pgs_cons (pg_name (i := 2) scSet.nd rfl (Or.inl rfl) (Or.inr rfl)) (pgs_cons (pg_name (i := 3) scSet.nd rfl (Or.inl rfl) (Or.inr rfl)) pgs_nil))) (fun _ _ _ _ _ => pts_nil)
          (fun _ _ _ _ _ => pv 3)) pa_nil)))), ?_⟩
  have lp := hm.len hg
  refine ⟨_, rfl, b, n, cs, rfl, hB, hg, fun H1 s1 => ⟨_, rfl, b, t, n, cs, xs, ps, rfl, hB.same s1, hg, Same.tup s1 ht, PairsAt.same s1 hp, hm, fun H2 s2 => ⟨_, rfl, iteF ?_⟩⟩⟩
  have s12 := s1.trans s2
  refine ⟨_, rfl, t, rfl, ⟨_, Same.tup s12 ht⟩, fun D hD => ?_⟩
  refine lc_map (y_pairs (K := K) (a := t)) hD (fun H4 s4 => ⟨Same.tup s4 (Same.tup s12 ht), PairsAt.same s4 (PairsAt.same s12 hp)⟩) (fun p => .int p.2) (by omega) (fun p x H4 hmem s4 hx R R' hR => ?_) fun H4 s4 e4 => ?_
  · obtain ⟨T, rfl, hT⟩ := hx
    exact ⟨T, _, rfl, SqT.of hT, rfl, _, _, rfl, _, _, rfl, rfl, rfl, yes ⟨_, rfl, hR H4 (Same.refl _)⟩⟩
  · exact ⟨D, ps.map (·.2), rfl, SqL.of (by rw [e4, List.map_map]; rfl), by rw [List.length_map]; omega, fun H5 p qs s5 => q H5 p qs ((s12.trans s4).trans s5)⟩
/-! ### are_numbers, need_numbers -/
structure GoodN (cs : List (List Int)) (ns : List Int) : Prop where
  num : ∀ i ∈ ns, 0 ≤ i ∧ i < cs.length
  asc : ns.Pairwise (· < ·)
theorem GoodN.len {n : Int} {cs : List (List Int)} {ns : List Int} (hg : GoodB n cs) (h : GoodN cs ns) : ns.length ≤ 16 := by
  have := len_le (ys := upto cs.length) (asc_nodup h.asc) fun x hx => mem_upto.mpr (h.num x hx)
  rw [upto_len] at this
  have := hg.len
  omega
abbrev sAreN : Stmt := top 27
theorem scAreN : FnScope ["bundle", "thing", "one"] ["bundle", "thing"] (defScope sAreN) := ⟨rfl, rfl, rfl, by decide +kernel, rfl, by decide +kernel, by decide +kernel⟩
def spAreN (K : PySem.W.Frag) : Sp := fun vs H Q _ => ∃ (b t : Addr) (n : Int) (cs : List (List Int)) (ns : List Int), vs = [.ref b, .ref t] ∧ Bun K H b n cs ∧ GoodB n cs ∧ SqT K H t (ns.map V.int) ∧ GoodN cs ns ∧ ∀ H', Same H H' → Q (.bl true) H'
theorem Bun.parts {H : Hp} {b : Addr} {n : Int} {cs : List (List Int)} (h : Bun K H b n cs) : ∃ c xs, SqT K H b [.int n, .ref c] ∧ SqT K H c xs ∧ xs.length = cs.length := by
  obtain ⟨c, xs, a1, a2, a3⟩ := h
  exact ⟨c, xs, a1, a2, Paired.length a3⟩
theorem ok_aren (G : Glo mg) (cB : Cal P w K mg base 2 "is_between" spBetween) (cR : Cal P w K mg base 1 "are_rising" (spRising K)) (D : Def K mg "are_numbers" sAreN ["bundle", "thing"]) : Cal P w K mg base 3 "are_numbers" (spAreN K) := by
  refine cal D scAreN (fun vs H Q E h => ?_) (fun f cdv A outer s H vs Q E hr h => ?_)
  · obtain ⟨b, t, n, cs, ns, rfl, _⟩ := h
    rfl
  obtain ⟨b, t, n, cs, ns, rfl, hB, hg, ht, hn, q⟩ := h
  refine ⟨_, pss_cons (ps_if (PW.pt (pw_or (pt_not (pt_val (pe_callB call_isi (by rfl) G.isinstance b_isinstance (pa_cons (pv 1) (pa_cons (pe_bltn (v := .ty "tuple") (by rfl) G.tuple b_tuple rfl) pa_nil)))))
      (pw_or1 (pt_not (pt_val (pe_callB (cr_all rfl) (by rfl) G.all b_all (pa_cons
        (pe_lc (own := [("one", 2)]) (g := gName 2) (tt := tYes) rfl scAreN.nd (pi_tup (pv 1)) (blkOk_by (N := ["bundle", "thing", "one"]) (sc := defScope sAreN) (by decide +kernel))
          (fun _ _ _ _ _ => pg_name (i := 2) scAreN.nd rfl (Or.inl rfl) (Or.inr rfl)) (fun _ _ _ _ _ => pts_nil)
          (fun _ _ _ _ _ => pe_c cB hr (pa_cons (pv 2) (pa_cons pe_int (pa_cons (pe_op op_sub (pe_callB (call_lenK K) (by rfl) G.len b_len (pa_cons (pe_ix (ixt K) (pv 0) pe_int (fun _ _ => rfl)) pa_nil)) pe_int) pa_nil))))) pa_nil)))))) ) (pss_one (ps_ret pe_bl)) pss_nil)
    (pss_one (ps_ret (pe_c cR hr (pa_cons (pv 1) pa_nil)))), ?_⟩
  have ln := hn.len hg
  refine ⟨_, rfl, _, _, _, _, _, rfl, .ty "tuple", ty_tup ht, k_tup_tup, _, rfl, iteF ?_⟩
  refine ⟨_, rfl, t, rfl, ⟨_, ht⟩, fun D hD => ?_⟩
  refine lc_map (y_tup (K := K) (a := t) (xs := ns.map V.int)).map hD (fun H2 s2 => Same.tup s2 ht) (fun _ => .bl true) (by omega) (fun i x H2 hm s2 hx R R' hR => ?_) fun H2 s2 e => ?_
  · subst hx
    obtain ⟨c, xs, a1, a2, hl⟩ := (hB.same s2).parts
    obtain ⟨i0, i1⟩ := hn.num i hm
    exact ⟨rfl, yes ⟨_, rfl, _, rfl, b, _, _, _, rfl, rfl, a1, atI_nat (xs := [V.int n, V.ref c]) (j := 1) rfl, c, _, rfl, .inr a2, _, _, rfl, rfl, i, 0, _, rfl, i0, by omega, hR H2 (Same.refl _)⟩⟩
  refine ⟨D, _, rfl, bls_true e, _, rfl, ?_⟩
  rw [all_true]
  refine iteF ?_
  exact ⟨_, rfl, t, ns, rfl, .inr (Same.tup s2 ht), hn.asc, by omega, fun H3 s3 => q H3 (s2.trans s3)⟩
abbrev sNeedN : Stmt := top 28
theorem scNeedN : FnScope ["bundle", "numbers"] ["bundle", "numbers"] (defScope sNeedN) := ⟨rfl, rfl, rfl, by decide +kernel, rfl, by decide +kernel, by decide +kernel⟩
def spNeedN (K : PySem.W.Frag) : Sp := fun vs H Q _ => ∃ (b t : Addr) (n : Int) (cs : List (List Int)) (ns : List Int), vs = [.ref b, .ref t] ∧ Bun K H b n cs ∧ GoodB n cs ∧ SqT K H t (ns.map V.int) ∧ GoodN cs ns ∧ ∀ H', Same H H' → Q .non H'
theorem ok_needn (cN : Cal P w K mg base 4 "need_bundle" (spNeedB K)) (cA : Cal P w K mg base 3 "are_numbers" (spAreN K)) (D : Def K mg "need_numbers" sNeedN ["bundle", "numbers"]) : Cal P w K mg base 5 "need_numbers" (spNeedN K) := by
  refine cal D scNeedN (fun vs H Q E h => ?_) (fun f cdv A outer s H vs Q E hr h => ?_)
  · obtain ⟨b, t, n, cs, ns, rfl, _⟩ := h
    rfl
  obtain ⟨b, t, n, cs, ns, rfl, hB, hg, ht, hn, q⟩ := h
  refine ⟨_, pss_one (ps_if (pt_not (pt_val (pe_c cA hr (pa_cons (pe_c cN hr (pa_cons (pv 0) pa_nil)) (pa_cons (pv 1) pa_nil))))) pss_never pss_nil), ?_⟩
  exact ⟨_, rfl, b, n, cs, rfl, hB, hg, fun H1 s1 => ⟨_, rfl, b, t, n, cs, ns, rfl, hB.same s1, hg, Same.tup s1 ht, hn, fun H2 s2 => ⟨_, rfl, iteB rfl (q H2 (s1.trans s2))⟩⟩⟩
/-! ### clauses_at, more_in, more_of -/
abbrev sAt : Stmt := top 29
theorem scAt : FnScope ["bundle", "numbers", "number"] ["bundle", "numbers"] (defScope sAt) := ⟨rfl, rfl, rfl, by decide +kernel, rfl, by decide +kernel, by decide +kernel⟩
def spAt (K : PySem.W.Frag) : Sp := fun vs H Q _ => ∃ (b t : Addr) (n : Int) (cs : List (List Int)) (ns : List Int), vs = [.ref b, .ref t] ∧ Bun K H b n cs ∧ SqT K H t (ns.map V.int) ∧ (∀ i ∈ ns, 0 ≤ i ∧ i < cs.length) ∧ ns.length ≤ 1000 ∧
  ∀ H' p acc, Same H H' → H' p = some (.lst acc) → RowsAt K H' acc (ns.map (row cs)) → Q (.ref p) H'
theorem RowAt.keeps {H H' : Hp} {D : Addr} {o : HO} {x : V} {c : List Int} (hD : H D = some o) (hm : Mut (some o)) (h : RowAt K H x c) (k : ∀ b o, b ≠ D → H b = some o → H' b = some o) : RowAt K H' x c := by
  obtain ⟨a, e, q⟩ := h
  refine ⟨a, e, SqT.ext (fun b u eb nm => k b u (fun z => nm ?_) eb) q⟩
  rw [z, hD] at eb
  cases eb
  exact hm
theorem ok_at (D : Def K mg "clauses_at" sAt ["bundle", "numbers"]) : Cal P w K mg base 1 "clauses_at" (spAt K) := by
  refine cal D scAt (fun vs H Q E h => ?_) (fun f cdv A outer s H vs Q E hr h => ?_)
  · obtain ⟨b, t, n, cs, ns, rfl, _⟩ := h
    rfl
  obtain ⟨b, t, n, cs, ns, rfl, hB, ht, hn, hz, q⟩ := h
  refine ⟨_, pss_one (ps_ret (pe_lc (own := [("number", 2)]) (g := gName 2) (tt := tYes) rfl scAt.nd (pi_tup (pv 1)) (blkOk_by (N := ["bundle", "numbers", "number"]) (sc := defScope sAt) (by decide +kernel))
          (fun _ _ _ _ _ => pg_name (i := 2) scAt.nd rfl (Or.inl rfl) (Or.inr rfl)) (fun _ _ _ _ _ => pts_nil)
          (fun _ _ _ _ _ => pe_ix (ixt K) (pe_ix (ixt K) (pv 0) pe_int (fun _ _ => rfl)) (pv 2) (fun _ _ => rfl)))), ?_⟩
  refine ⟨_, rfl, t, rfl, ⟨_, ht⟩, fun D hD => ?_⟩
  refine lc_rel (y_tup (K := K) (a := t) (xs := ns.map V.int)).map hD (fun H2 s2 => Same.tup s2 ht) (fun _ => true) hz (fun i v H => RowAt K H v (row cs i)) (fun i v H H' acc e p k => RowAt.keeps e True.intro p k) (fun i x H2 hm s2 hx R R' hR _ => ?_) fun H2 acc s2 e pr => ?_
  · subst hx
    obtain ⟨i0, i1⟩ := hn i hm
    obtain ⟨c, xs, ya, a1, a2, a3, a4, _⟩ := (hB.same s2).row i0 i1
    exact ⟨rfl, yes ⟨_, rfl, b, _, _, _, rfl, rfl, a1, atI_nat (xs := [V.int n, V.ref c]) (j := 1) rfl, _, rfl, c, xs, _, _, rfl, rfl, a2, a3, hR rfl _ H2 ⟨ya, rfl, a4⟩ (Same.refl _)⟩⟩
  · have ef : ns.filter (fun _ => true) = ns := List.filter_eq_self.mpr fun _ _ => rfl
    rw [ef] at pr
    refine q H2 D acc s2 e ?_
    have all : ∀ {ns : List Int} {acc : List V}, Paired (fun i v => RowAt K H2 v (row cs i)) ns acc → RowsAt K H2 acc (ns.map (row cs)) := by
      intro ns acc h
      induction h with
      | nil => exact .nil
      | cons r t ih => exact .cons r ih
    exact all pr
abbrev sMoreIn : Stmt := top 30
theorem scMoreIn : FnScope ["bundle", "numbers"] ["bundle", "numbers"] (defScope sMoreIn) := ⟨rfl, rfl, rfl, by decide +kernel, rfl, by decide +kernel, by decide +kernel⟩
def NamesAre (cs : List (List Int)) (ns nm : List Int) : Prop := nm.Pairwise (· < ·) ∧ ∀ x, x ∈ nm ↔ Named (ns.map (row cs)) x
def spMoreIn (K : PySem.W.Frag) : Sp := fun vs H Q _ => ∃ (b t : Addr) (n : Int) (cs : List (List Int)) (ns : List Int), vs = [.ref b, .ref t] ∧ Bun K H b n cs ∧ GoodB n cs ∧ SqT K H t (ns.map V.int) ∧ GoodN cs ns ∧
  ∀ H' nm, Same H H' → NamesAre cs ns nm → Q (.int ((ns.length : Int) - (nm.length : Int))) H'
theorem ok_more_in (G : Glo mg) (cA : Cal P w K mg base 1 "clauses_at" (spAt K)) (cI : Cal P w K mg base 1 "names_in" (spNamesIn K)) (D : Def K mg "more_in" sMoreIn ["bundle", "numbers"]) : Cal P w K mg base 2 "more_in" (spMoreIn K) := by
  refine cal D scMoreIn (fun vs H Q E h => ?_) (fun f cdv A outer s H vs Q E hr h => ?_)
  · obtain ⟨b, t, n, cs, ns, rfl, _⟩ := h
    rfl
  obtain ⟨b, t, n, cs, ns, rfl, hB, hg, ht, hn, q⟩ := h
  refine ⟨_, pss_one (ps_ret (pe_op op_sub (pe_callB call_len_seq (by rfl) G.len b_len (pa_cons (pv 1) pa_nil)) (pe_callB call_len_seq (by rfl) G.len b_len (pa_cons (pe_c cI hr (pa_cons (pe_c cA hr (pa_cons (pv 0) (pa_cons (pv 1) pa_nil))) pa_nil)) pa_nil)))), ?_⟩
  have ln := hn.len hg
  refine ⟨_, rfl, t, _, rfl, .inr ht, _, rfl, _, rfl, b, t, n, cs, ns, rfl, hB, ht, hn.num, by omega, fun H1 p acc s1 e1 r1 => ?_⟩
  refine ⟨p, acc, ns.map (row cs), rfl, SqL.of e1, r1, fun x hx => ?_, fun H2 p2 nm s2 asc mem e2 => ?_⟩
  · obtain ⟨c, hc, l, hl, e⟩ := hx
    obtain ⟨i, hi, ei⟩ := List.mem_map.mp hc
    obtain ⟨i0, i1⟩ := hn.num i hi
    have := (hg.lit _ (row_mem i0 i1).2).1 l (by rw [ei]; exact hl)
    have := hg.n7
    omega
  · refine ⟨p2, _, rfl, .inl (SqL.of e2), _, _, rfl, rfl, ?_⟩
    have := q H2 nm (s1.trans s2) ⟨asc, mem⟩
    rw [List.length_map, List.length_map]
    exact this
abbrev sMoreOf : Stmt := top 31
theorem scMoreOf : FnScope ["bundle", "numbers"] ["bundle", "numbers"] (defScope sMoreOf) := ⟨rfl, rfl, rfl, by decide +kernel, rfl, by decide +kernel, by decide +kernel⟩
theorem ok_more_of (cN : Cal P w K mg base 5 "need_numbers" (spNeedN K)) (cI : Cal P w K mg base 2 "more_in" (spMoreIn K)) (D : Def K mg "more_of" sMoreOf ["bundle", "numbers"]) : Cal P w K mg base 6 "more_of" (spMoreIn K) := by
  refine cal D scMoreOf (fun vs H Q E h => ?_) (fun f cdv A outer s H vs Q E hr h => ?_)
  · obtain ⟨b, t, n, cs, ns, rfl, _⟩ := h
    rfl
  obtain ⟨b, t, n, cs, ns, rfl, hB, hg, ht, hn, q⟩ := h
  refine ⟨_, pss_cons (ps_expr (pe_c cN hr (pa_cons (pv 0) (pa_cons (pv 1) pa_nil)))) (pss_one (ps_ret (pe_c cI hr (pa_cons (pv 0) (pa_cons (pv 1) pa_nil))))), ?_⟩
  exact ⟨_, rfl, _, rfl, b, t, n, cs, ns, rfl, hB, hg, ht, hn, fun H1 s1 => ⟨_, rfl, _, rfl, b, t, n, cs, ns, rfl, hB.same s1, hg, Same.tup s1 ht, hn, fun H2 nm s2 => q H2 nm (s1.trans s2)⟩⟩
end
end IdW
end
section
set_option maxRecDepth 100000
namespace IdW
open PySem PySem.Spec PyProof.Rows L2 IdR RZ Idle
theorem eqv_nil (ns : List Int) : PyData.eqv (.list (ns.map .int)) (.list []) = decide (ns = []) := by
  cases ns with
  | nil => rfl
  | cons a r => simp [PyData.eqv, PyData.eqvAll]
/-! ### what the loop keeps: F found, W waiting; of cur the names rest are still to be looked at -/
structure LI (L : Int → List Int) (B : Ties) (cs F W : List Int) (cur : Int) (rest : List Int) : Prop where
  nd : F.Nodup
  base : ∀ c ∈ cs, c ∉ B.map (·.2) → c ∈ F
  reach : ∀ c ∈ F, Reach L B cs c
  sub : ∀ c ∈ W, c ∈ F
  shut : ∀ c ∈ F, c ∉ W → ∀ x ∈ L c, (c = cur ∧ x ∈ rest) ∨ ∀ d, getB B x = some d → d ∈ F
section
variable {L : Int → List Int} {B : Ties} {cs F W rest : List Int} {cur c x d : Int}
theorem LI.init (h : F = cs.filter fun c => !decide (c ∈ B.map (·.2))) (hn : cs.Nodup) : LI L B cs F F 0 [] := by
  subst h
  refine ⟨hn.sublist List.filter_sublist, fun c hc hb => List.mem_filter.mpr ⟨hc, by rw [decide_eq_false hb]; rfl⟩, fun c hc => ?_, fun c hc => hc, fun c hc hw => absurd hc hw⟩
  obtain ⟨h1, h2⟩ := List.mem_filter.mp hc
  exact .base h1 fun z => by rw [decide_eq_true z] at h2; cases h2
theorem LI.pop (h : LI L B cs F (W ++ [c]) cur []) : LI L B cs F W c (L c) where
  nd := h.nd
  base := h.base
  reach := h.reach
  sub := fun a ha => h.sub a (List.mem_append_left _ ha)
  shut := fun a ha hw x hx => by
    by_cases e : a = c
    · rw [e] at hx
      exact .inl ⟨e, hx⟩
    · rcases h.shut a ha (fun z => (List.mem_append.mp z).elim hw fun z => e (List.mem_singleton.mp z)) x hx with z | z
      · cases z.2
      · exact .inr z
theorem LI.skip (h : LI L B cs F W c (x :: rest)) (hd : getB B x = some d) (hf : d ∈ F) : LI L B cs F W c rest :=
  ⟨h.nd, h.base, h.reach, h.sub, fun a ha hw y hy => by
    rcases h.shut a ha hw y hy with ⟨e, z⟩ | z
    · rcases List.mem_cons.mp z with z | z
      · refine .inr fun d' hd' => ?_
        rw [z, hd] at hd'
        cases hd'
        exact hf
      · exact .inl ⟨e, z⟩
    · exact .inr z⟩
theorem LI.add (h : LI L B cs F W c (x :: rest)) (hd : getB B x = some d) (hf : d ∉ F) (hc : c ∈ F) (hx : x ∈ L c) : LI L B cs (F ++ [d]) (W ++ [d]) c rest where
  nd := nd_snoc h.nd hf
  base := fun a ha hb => List.mem_append_left _ (h.base a ha hb)
  reach := fun a ha => by
    rcases List.mem_append.mp ha with ha | ha
    · exact h.reach a ha
    · rw [List.mem_singleton.mp ha]
      exact .step (h.reach c hc) hx hd
  sub := fun a ha => by
    rcases List.mem_append.mp ha with ha | ha
    · exact List.mem_append_left _ (h.sub a ha)
    · exact List.mem_append_right _ ha
  shut := fun a ha hw y hy => by
    have ha : a ∈ F := (List.mem_append.mp ha).elim id fun z => absurd (List.mem_append_right _ z) hw
    rcases h.shut a ha (fun z => hw (List.mem_append_left _ z)) y hy with ⟨e, z⟩ | z
    · rcases List.mem_cons.mp z with z | z
      · refine .inr fun d' hd' => ?_
        rw [z, hd] at hd'
        cases hd'
        simp
      · exact .inl ⟨e, z⟩
    · exact .inr fun d' hd' => List.mem_append_left _ (z d' hd')
theorem LI.fin (h : LI L B cs F [] cur []) : ∀ a, a ∈ F ↔ Reach L B cs a := fun a => by
  refine ⟨h.reach a, fun r => ?_⟩
  induction r with
  | base h1 h2 => exact h.base _ h1 h2
  | step r hx hd ih =>
    rcases h.shut _ ih (by simp) _ hx with z | z
    · cases z.2
    · exact z _ hd
theorem LI.len (h : LI L B cs F W cur rest) (K : TiesOk L cs B) : F.length ≤ cs.length := len_le h.nd fun a ha => (h.reach a ha).mem K
end
theorem y_leads {L : Int → List Int} {m : Nat} {d : Addr} {o : Obj} {kvs : List (Key × V)} {H0 : Hp} (hk : LeadK L m H0 kvs) : Yields (Itk d o kvs) (fun H => H d = some (.frz o (.dK kvs))) (upto m) (fun c x _ => x = .int c) := fun H h => by
  have kl : kvs.length = m := by rw [← Paired.length hk, upto_len]
  obtain ⟨y1, y2, y3⟩ := y_keys (d := d) (o := o) (kvs := kvs) H h
  rw [kl] at y1 y2 y3
  rw [upto_len]
  refine ⟨y1, y2, fun i x H' hi y => ?_⟩
  obtain ⟨s, p, e1, e2⟩ := y3 i x H' hi y
  have hu : (upto m)[i]? = some ((upto m)[i]'(by rw [upto_len]; exact hi)) := List.getElem?_eq_getElem _
  obtain ⟨p', e3, e4, _⟩ := paired_get hk hu
  rw [e1] at e3
  cases e3
  exact ⟨s, _, hu, by rw [e2, e4]; rfl⟩
theorem valV_isSome (kvs : List (Key × V)) (k : Key) : (valV kvs k).isSome = true ↔ k ∈ kvs.map (·.1) := by
  constructor
  · intro h
    obtain ⟨v, e⟩ := Option.isSome_iff_exists.mp h
    exact valV_in e
  · intro h
    cases e : valV kvs k with
    | some v => rfl
    | none => exact absurd h (valV_not e)
theorem inl_mem {x : Int} {ks : List Int} : (Sum.inl x : Key) ∈ ks.map Sum.inl ↔ x ∈ ks := ⟨fun z => by
  obtain ⟨b, hb, eb⟩ := List.mem_map.mp z
  cases eb
  exact hb, fun z => List.mem_map_of_mem z⟩
theorem key_in {kvs : List (Key × V)} {ks : List Int} (h : kvs.map (·.1) = ks.map Sum.inl) (x : Int) : (valV kvs (Sum.inl x)).isSome = decide (x ∈ ks) := by
  rw [Bool.eq_iff_iff, valV_isSome, h, decide_eq_true_eq]
  exact inl_mem
theorem key_put {kvs : List (Key × V)} {ks : List Int} (h : kvs.map (·.1) = ks.map Sum.inl) {x : Int} (hx : x ∉ ks) (v : V) : (putK kvs (Sum.inl x) v).map (·.1) = (ks ++ [x]).map Sum.inl := by
  rw [put_keysK, h, if_neg (fun z => hx (inl_mem.mp z)), List.map_append]
  rfl
theorem key_len {kvs : List (Key × V)} {ks : List Int} (h : kvs.map (·.1) = ks.map Sum.inl) : kvs.length = ks.length := by
  have := congrArg List.length h
  rwa [List.length_map, List.length_map] at this
section
variable {P : Program} {w : World} {K : PySem.W.Frag} {mg : Str → Option Value} {base : Heap}
abbrev sLeft : Stmt := top 32
theorem scLeft : FnScope ["bundle", "back", "leads", "tied", "found", "waiting", "name", "number"] ["bundle", "back"] (defScope sLeft) := ⟨rfl, rfl, rfl, by decide +kernel, rfl, by decide +kernel, by decide +kernel⟩
abbrev nLeft : List Str := ["bundle", "back", "leads", "tied", "found", "waiting", "name", "number"]
def spLeft (K : PySem.W.Frag) : Sp := fun vs H Q _ => ∃ (b k : Addr) (n : Int) (cs : List (List Int)), vs = [.ref b, .ref k] ∧ Bun K H b n cs ∧ GoodB n cs ∧ H k = some (.dK (dB (tiesB n cs))) ∧
  ∀ H' p (ns : List Int), Same H H' → ns.Pairwise (· < ·) → (∀ c, c ∈ ns ↔ Reach (LL n cs) (tiesB n cs) (upto cs.length) c) → H' p = some (.lst (ns.map V.int)) → Q (.ref p) H'
theorem ok_left (G : Glo mg) (cA : Cal P w K mg base 3 "all_leads" (spAll K)) (D : Def K mg "left_over" sLeft ["bundle", "back"]) : Cal P w K mg base 4 "left_over" (spLeft K) := by
  refine cal D scLeft (fun vs H Q E h => ?_) (fun f cdv A outer s H vs Q E hr h => ?_)
  · obtain ⟨b, k, n, cs, rfl, _⟩ := h
    rfl
  obtain ⟨b, k, n, cs, rfl, hB, hg, hk, q⟩ := h
  have hu := hu_of hr
  refine ⟨_, pss_cons (ps_asg (pe_tup (pa_cons (pe_c cA hr (pa_cons (pv 0) pa_nil)) (pa_cons (pe_lock
        (pe_dc (own := [("number", 7)]) (g := gName 7) (tt := tYes) rfl scLeft.nd (pi_values (pv 1)) (blkOk_by (N := nLeft) (sc := defScope sLeft) (by decide +kernel))
          (fun _ _ _ _ _ => pg_name (i := 7) scLeft.nd rfl (Or.inl rfl) (Or.inr rfl)) (fun _ _ _ _ _ => pts_nil) (fun _ _ _ _ _ => pv 7) (fun _ _ _ _ _ => pe_bl))) pa_nil)))
        (pg_tup rfl (pgs_cons (pg_name (i := 2) scLeft.nd rfl (.inl rfl)) (pgs_cons (pg_name (i := 3) scLeft.nd rfl (.inr rfl)) pgs_nil))))
    (pss_cons (ps_lock (ps_setDc (i := 4) (own := [("number", 7)]) (g := gName 7) (tt := tB (tDNotIn (tVar 7) (tVar 3))) rfl scLeft.nd rfl rfl (sw_dict rfl rfl rfl (by decide +kernel)) (pi_keys (pv 2)) (blkOk_by (N := nLeft) (sc := defScope sLeft) (by decide +kernel))
          (fun _ _ _ _ _ => pg_name (i := 7) scLeft.nd rfl (Or.inl rfl) (Or.inr rfl)) (fun _ _ _ _ _ => pts_one (pt_cmp (pc_dnotin hu (pv 7) (pv 3)))) (fun _ _ _ _ _ => pv 7) (fun _ _ _ _ _ => pe_bl)))
    (pss_cons (ps_set (i := 5) scLeft.nd rfl (.inl rfl) (pe_callTy (call_listD rfl) (by rfl) G.list b_list (pa_cons (pv 4) pa_nil)))
    (pss_cons (ps_while PassesOwn.never (pt_cmpR (op_neD hr.units) (pv 5) (pe_lst pa_nil) (nomark _))
        (pss_one (ps_for PassesOwn.never rfl (pi_list (pe_dget hu (pv 2) (pe_bm0 PySem.F.plainAttrs_list PySem.F.slot_list_pop PySem.F.type_list_pop mt_pop (pv 5)) (fun _ _ => rfl))) (pg_name (i := 6) scLeft.nd rfl (.inl rfl))
          (pss_one (ps_if (pt_cmp (pc_dnotin hu (pe_dget hu (pv 1) (pv 6) (fun _ _ => rfl)) (pv 4)))
            (pss_cons (ps_dput hu (pv 4) (pe_dget hu (pv 1) (pv 6) (fun _ _ => rfl)) pe_bl rfl)
            (pss_one (ps_expr (pe_bm PySem.F.plainAttrs_list PySem.F.slot_list_append PySem.F.type_list_append mt_append (pv 5) (pa_cons (pe_dget hu (pv 1) (pv 6) (fun _ _ => rfl)) pa_nil))))) pss_nil)))))
    (pss_one (ps_ret (pe_callB (call_sortedDI rfl) (by rfl) G.sorted b_sorted (pa_cons (pv 4) pa_nil))))))), ?_⟩
  have K0 := tiesB_ok hg
  have hM := hg.len
  generalize hT : tiesB n cs = B at hk q K0
  have nB : B.length ≤ 7 := by rw [← hT]; exact tiesB_len hg
  refine ⟨_, rfl, b, n, cs, rfl, hB, hg, fun H1 d kvs s1 nd e1 k1 => ?_⟩
  have hk1 := s1 _ _ hk
  have hkd : k ≠ d := ne_of_none hk nd
  refine ⟨k, _, hk1, True.intro, fun od => ?_⟩
  refine ⟨_, rfl, k, od, _, rfl, upd_same, fun Dt hDt => ?_⟩
  have kd : k ≠ Dt := ne_of_none (upd_same (H := H1)) hDt
  have ndk : (B.map fun p => (Sum.inl p.2 : Key)).Nodup := by
    have := nodup_map (f := (Sum.inl : Int → Key)) K0.ndv fun x _ y _ e => Sum.inl.inj e
    rwa [List.map_map] at this
  refine dc_keep (y_vals (d := k) (o := od) (kvs := dB B)).map hDt (fun H2 s2 => s2 _ _ upd_same) (fun _ => true) (fun p => Sum.inl p.2) (by omega) ndk (fun _ v _ => v = .bl true) (fun _ _ _ _ _ _ p _ => p) (fun p x H2 hm s2 hx R R' hR _ => ?_) fun H2 tk s2 e2 pr => ?_
  · subst hx
    exact ⟨rfl, yes ⟨_, rfl, hR rfl _ H2 rfl (Same.refl _)⟩⟩
  have ef : B.filter (fun _ => true) = B := List.filter_eq_self.mpr fun _ _ => rfl
  rw [ef] at pr
  have tkeys : tk.map (·.1) = (B.map (·.2)).map Sum.inl := by
    rw [List.map_map]
    exact paired_keys (fun a p z => z.1) pr
  have lk2 := s2 _ _ (upd_same (H := H1))
  refine ⟨lk2, (by show 2 ≤ sizeLine; decide), fun T hT3 => ?_⟩
  generalize hH3 : upd H2 k (.dK (dB B)) = H3 at hT3
  have s3 : Same H1 H3 := fun a o ea => by
    rw [← hH3]
    by_cases e : a = k
    · rw [e] at ea ⊢
      rw [hk1] at ea
      cases ea
      exact upd_same
    · rw [upd_ne e]
      exact s2 _ _ (by rw [upd_ne e]; exact ea)
  have t3 : H3 Dt = some (.dK tk) := by rw [← hH3, upd_ne kd.symm]; exact e2
  have sT := same_new (.tup [V.ref d, V.ref Dt]) hT3
  have s4 := s3.trans sT
  refine ⟨T, _, rfl, SqT.of upd_same, rfl, _, _, rfl, _, _, rfl, rfl, ?_⟩
  have d4 := s4 _ _ e1
  have t4 := sT _ _ t3
  have k4 := k1.keep (H' := upd H3 T (.tup [V.ref d, V.ref Dt])) fun b xs e => s4 _ _ e
  have b4 := s4 _ _ hk1
  generalize upd H3 T (.tup [V.ref d, V.ref Dt]) = H4 at s4 d4 t4 k4 b4
  have dDt : d ≠ Dt := ne_of_none (show (upd H1 k (.frz od (.dK (dB B)))) d = some (.dK kvs) by rw [upd_ne hkd.symm]; exact e1) hDt
  refine ⟨d, _, d4, True.intro, fun od2 => ?_⟩
  refine ⟨_, rfl, d, od2, rfl, .inl ⟨kvs, upd_same, fun Df hDf => ?_⟩⟩
  have ddf : d ≠ Df := ne_of_none (upd_same (H := H4)) hDf
  refine dc_keep (y_leads k4) hDf (fun H5 s5 => s5 _ _ upd_same) (fun c => !decide (c ∈ B.map (·.2))) Sum.inl (by rw [upto_len]; omega) (nodup_map (upto_nodup _) fun x _ y _ e => Sum.inl.inj e) (fun _ v _ => v = .bl true) (fun _ _ _ _ _ _ p _ => p) (fun c x H5 hm s5 hx R R' hR hR' => ?_) fun H5 fk s5 e5 pr5 => ?_
  · subst hx
    have t5 : H5 Dt = some (.dK tk) := s5 _ _ (by rw [upd_ne dDt.symm]; exact t4)
    refine ⟨rfl, _, rfl, _, rfl, Dt, _, rfl, dget_r (k := Sum.inl c) (.inl t5) rfl, _, rfl, ?_⟩
    rw [key_in tkeys]
    by_cases hc : c ∈ B.map (·.2)
    · rw [decide_eq_true hc]
      exact iteF (hR' (by rw [decide_eq_true hc]; rfl) H5 (Same.refl _))
    · rw [decide_eq_false hc]
      exact iteT ⟨_, rfl, hR (by rw [decide_eq_false hc]; rfl) _ H5 rfl (Same.refl _)⟩
  have fkeys : fk.map (·.1) = ((upto cs.length).filter fun c => !decide (c ∈ B.map (·.2))).map Sum.inl := paired_keys (fun a p z => z.1) pr5
  have ld5 := s5 _ _ (upd_same (H := H4))
  refine ⟨ld5, ?_⟩
  generalize hF0 : (upto cs.length).filter (fun c => !decide (c ∈ B.map (·.2))) = F0 at fkeys pr5
  have s6 : Same H4 (upd H5 d (.dK kvs)) := fun a o ea => by
    by_cases e : a = d
    · rw [e] at ea ⊢
      rw [d4] at ea
      cases ea
      exact upd_same
    · rw [upd_ne e]
      exact s5 _ _ (by rw [upd_ne e]; exact ea)
  have f6 : (upd H5 d (.dK kvs)) Df = some (.dK fk) := by rw [upd_ne ddf.symm]; exact e5
  have fDn : H4 Df = none := by
    have := hDf
    rwa [upd_ne ddf.symm] at this
  have s46 := s4.trans s6
  generalize upd H5 d (.dK kvs) = H6 at s6 f6 s46
  refine ⟨_, rfl, Df, fk, rfl, .inl f6, fun l hl => ?_⟩
  have ek : fk.map (fun kv => kV kv.1) = F0.map V.int := by
    have := congrArg (List.map kV) fkeys
    rw [List.map_map, List.map_map] at this
    exact this
  rw [ek]
  have s7 := same_new (.lst (F0.map V.int)) hl
  have hDfl : Df ≠ l := ne_of_none f6 hl
  generalize hH7 : upd H6 l (.lst (F0.map V.int)) = H7 at s7
  have s67 := s6.trans s7
  have d7 := s67 _ _ d4
  have k7 := k4.keep (H' := H7) fun b xs e => s67 _ _ e
  have b7 := s67 _ _ b4
  have f7 := s7 _ _ f6
  have l7 : H7 l = some (.lst (F0.map V.int)) := by rw [← hH7]; exact upd_same
  have kDf : k ≠ Df := ne_of_none b4 fDn
  have kl : k ≠ l := ne_of_none (s6 _ _ b4) hl
  have dl : d ≠ l := ne_of_none (s6 _ _ d4) hl
  -- the loop
  obtain ⟨Wd, hWd⟩ : ∃ Wd : Nat → L2.St → Hp → Prop, Wd = fun m σ H8 => ∃ (F W : List Int) (c0 : Int) (fk8 : List (Key × V)), But [Df, l] H7 H8 ∧ H8 Df = some (.dK fk8) ∧ fk8.map (·.1) = F.map Sum.inl ∧ H8 l = some (.lst (W.map V.int)) ∧ LI (LL n cs) B (upto cs.length) F W c0 [] ∧ 2 * (cs.length - F.length) + W.length ≤ 100 ∧ m = 2 * (cs.length - F.length) + W.length ∧
    ∃ u, σ = [some (V.ref b), some (V.ref k), some (V.ref d), some (V.ref Dt), some (V.ref Df), some (V.ref l), u, none] := ⟨_, rfl⟩
  refine ⟨Wd, ⟨2 * (cs.length - F0.length) + F0.length, by rw [hWd]; exact ⟨F0, F0, 0, fk, But.refl _, f7, fkeys, l7, LI.init hF0.symm (upto_nodup _), (by
      have := List.length_filter_le (fun c => !decide (c ∈ B.map (·.2))) (upto cs.length)
      rw [hF0, upto_len] at this
      omega), rfl, none, rfl⟩⟩, fun m σ H8 w8 => ?_⟩
  rw [hWd] at w8
  obtain ⟨F, W, c0, fk8, w1, w2, w3, w4, w5, w6, rfl, u, rfl⟩ := w8
  have lF : F.length ≤ cs.length := by
    have := w5.len K0
    rwa [upto_len] at this
  refine ⟨_, rfl, (by show 0 ≤ sizeLine; decide), fun pe hpe => ?_⟩
  have s9 := same_new (.lst []) hpe
  refine ⟨.list (W.map .int), .list [], .lst (s9.seq (SqL.of w4)) (dpAll_ints W), .lst (SqL.of upd_same) .nil, PySem.W.ke_shaped_ints W, PySem.W.ke_shaped_ints [], _, rfl, ?_⟩
  rw [eqv_nil]
  have w1' := w1.trans (But.of s9)
  have w2' := s9 _ _ w2
  have w4' := s9 _ _ w4
  generalize upd H8 pe (.lst []) = H9 at s9 w1' w2' w4'
  by_cases hW : W = []
  · rw [decide_eq_true hW]
    refine iteF ?_
    subst hW
    refine ⟨_, rfl, Df, fk8, F, rfl, .inl w2', w3, by omega, fun ys p pm sr hp => ?_⟩
    have n1 : H Df = none := (s1.trans s4).free fDn
    have n2 : H l = none := (s1.trans s46).free hl
    refine q _ p ys (fun a o ea => ?_) (asc_of sr (pm.nodup_iff.mpr w5.nd)) (fun c => by rw [pm.mem_iff, w5.fin]) upd_same
    have e7 := s7 _ _ (s46 _ _ (s1 _ _ ea))
    have e9 := w1' a o (by simp [ne_of_none ea n1, ne_of_none ea n2]) e7
    rw [upd_ne (ne_of_none e9 hp)]
    exact e9
  · rw [decide_eq_false hW]
    refine iteT ?_
    obtain ⟨W0, c, rfl⟩ : ∃ W0 c, W = W0 ++ [c] := ⟨W.dropLast, W.getLast hW, (List.dropLast_concat_getLast hW).symm⟩
    have hcF : c ∈ F := w5.sub c (by simp)
    have hcR := w5.reach c hcF
    have hcm := mem_upto.mp (hcR.mem K0)
    have w6' : 2 * (cs.length - F.length) + (W0.length + 1) ≤ 100 := by rw [List.length_append] at w6; exact w6
    refine ⟨fun σ' H' => ∃ m', m' < 2 * (cs.length - F.length) + (W0 ++ [c]).length ∧ Wd m' σ' H', fun σ' H' z => z, ?_⟩
    have frame : ∀ (H10 : Hp), But [Df, l] H7 H10 → H10 k = some (.dK (dB B)) ∧ H10 d = some (.dK kvs) ∧ ∀ a xs, a ≠ l → H7 a = some (.lst xs) → H10 a = some (.lst xs) := fun H10 h10 =>
      ⟨h10 k _ (by simp [kDf, kl]) b7, h10 d _ (by simp [ddf, dl]) d7, fun a xs na e => h10 a _ (by simp [na, ne_of e f7 fun z => by cases z]) e⟩
    obtain ⟨lc, elc, hlc⟩ := k7.get hcm.1 hcm.2
    have nlc : lc ≠ l := by
      obtain ⟨lc', elc', hlc'⟩ := k4.get hcm.1 hcm.2
      rw [elc] at elc'
      cases elc'
      exact ne_of_none (s6 _ _ hlc') hl
    have ew : (W0 ++ [c]).map V.int = W0.map V.int ++ [V.int c] := by rw [List.map_append]; rfl
    have b10 : But [Df, l] H7 (upd H9 l (.lst (W0.map V.int))) := but_upd w1' (by simp)
    obtain ⟨g1, g2, g3⟩ := frame _ b10
    refine ⟨_, rfl, _, rfl, .inl ⟨rfl, _, SqL.of w4'⟩, l, _, V.int c, rfl, rfl, w4', ?_, d, _, rfl, dget_r (k := Sum.inl c) (.inl ?_) elc, lc, rfl, ⟨(LL n cs c).map V.int, SqL.of ?_⟩, ?_⟩
    · rw [ew]; simp
    · rw [ew, List.dropLast_concat]; exact g2
    · rw [ew, List.dropLast_concat]; exact g3 lc _ nlc hlc
    rw [ew, List.dropLast_concat]
    refine for_y (y_list (K := K) (a := lc) (xs := (LL n cs c).map V.int)).map (fun done σ H8 => ∃ (F2 W2 rest : List Int) (fk8 : List (Key × V)), LL n cs c = done ++ rest ∧ But [Df, l] H7 H8 ∧ H8 Df = some (.dK fk8) ∧ fk8.map (·.1) = F2.map Sum.inl ∧ H8 l = some (.lst (W2.map V.int)) ∧ LI (LL n cs) B (upto cs.length) F2 W2 c rest ∧ c ∈ F2 ∧
        2 * (cs.length - F2.length) + W2.length < 2 * (cs.length - F.length) + (W0.length + 1) ∧
        ∃ u, σ = [some (V.ref b), some (V.ref k), some (V.ref d), some (V.ref Dt), some (V.ref Df), some (V.ref l), u, none])
      ⟨F, W0, LL n cs c, fk8, rfl, b10, ?_, w3, upd_same, w5.pop, hcF, by omega, u, rfl⟩ (fun done _ σ H8 _ p => ?_) (fun done x rest v σ H8 H10 e p s hx => ?_) fun σ H8 p => ?_
    · rw [upd_ne hDfl]; exact w2'
    · obtain ⟨F2, W2, rest, fk9, _, p2, _⟩ := p
      exact SqL.of ((frame _ p2).2.2 lc _ nlc hlc)
    · subst hx
      obtain ⟨F2, W2, rest2, fk9, e1', p2, p3, p4, p5, p6, p7, p8, u', rfl⟩ := p
      have er : rest2 = x :: rest := by
        rw [e1'] at e
        exact List.append_cancel_left e
      subst er
      have hxm : x ∈ LL n cs c := by rw [e1']; simp
      obtain ⟨dd, hdd⟩ := (p6.reach c p7).tied K0 hxm
      have edone : LL n cs c = (done ++ [x]) ++ rest := by rw [e1', List.append_assoc]; rfl
      have p2' := p2.trans (But.of s)
      obtain ⟨q1, q2, _⟩ := frame _ p2'
      have p3' := s _ _ p3
      have p5' := s _ _ p5
      have gk : ∀ {H : Hp}, H k = some (.dK (dB B)) → DGet H k (kV (Sum.inl x)) (some (.int dd)) := fun h => dget_r (k := Sum.inl x) (.inl h) (by rw [valV_dB, hdd]; rfl)
      refine ⟨_, rfl, _, rfl, k, _, rfl, gk q1, _, rfl, Df, _, rfl, dget_r (k := Sum.inl dd) (.inl p3') rfl, _, rfl, ?_⟩
      rw [key_in p4]
      by_cases hm : dd ∈ F2
      · rw [decide_eq_true hm]
        exact iteF ⟨F2, W2, rest, fk9, edone, p2', p3', p4, p5', p6.skip hdd hm, p7, p8, _, rfl⟩
      · rw [decide_eq_false hm]
        refine iteT ?_
        have L2 := p6.add hdd hm p7 hxm
        have l2 := L2.len K0
        rw [upto_len, List.length_append, List.length_singleton] at l2
        have fl : fk9.length = F2.length := key_len p4
        refine ⟨_, rfl, _, rfl, _, rfl, k, _, rfl, gk q1, Df, _, rfl, DPut.k (k := Sum.inl dd) p3' (small1000 (by omega)), ?_⟩
        have h11 : But [Df, l] H7 (upd H10 Df (.dK (putK fk9 (Sum.inl dd) (.bl true)))) := but_upd p2' (by simp)
        have l11 : (upd H10 Df (.dK (putK fk9 (Sum.inl dd) (.bl true)))) l = some (.lst (W2.map V.int)) := by rw [upd_ne hDfl.symm]; exact p5'
        obtain ⟨r1, r2, _⟩ := frame _ h11
        refine ⟨_, rfl, .inl ⟨rfl, _, SqL.of l11⟩, _, rfl, _, rfl, k, _, rfl, gk r1, l, _, _, rfl, rfl, l11, small1000 (by rw [List.length_map]; omega), ?_⟩
        refine ⟨F2 ++ [dd], W2 ++ [dd], rest, _, edone, but_upd h11 (by simp), by rw [upd_ne hDfl]; exact upd_same, key_put p4 hm _, by rw [upd_same, List.map_append]; rfl, L2, List.mem_append_left _ p7, by rw [List.length_append, List.length_append, List.length_singleton]; omega, _, rfl⟩
    · obtain ⟨F2, W2, rest2, fk9, e1', p2, p3, p4, p5, p6, p7, p8, u', rfl⟩ := p
      have er : rest2 = [] := by
        have := congrArg List.length e1'
        rw [List.length_append] at this
        exact List.length_eq_zero_iff.mp (by omega)
      subst er
      refine ⟨2 * (cs.length - F2.length) + W2.length, by rw [List.length_append]; exact p8, ?_⟩
      rw [hWd]
      exact ⟨F2, W2, c, fk9, p2, p3, p4, p5, p6, by omega, rfl, _, rfl⟩
end
end IdW
end
section
set_option maxRecDepth 100000
namespace IdW
open PySem PySem.Spec PyProof.Rows L2 IdR RZ Idle
theorem TupP.sq {K : PySem.W.Frag} {H : Hp} {a : Addr} {xs : List V} (h : TupP H a xs) : SqT K H a xs := let ⟨o, _, e⟩ := h; .inl (.inr ⟨o, e⟩)
theorem TupP.same {H H' : Hp} {a : Addr} {xs : List V} (s : Same H H') (h : TupP H a xs) : TupP H' a xs := let ⟨o, z, e⟩ := h; ⟨o, z, s _ _ e⟩
theorem TupP.ext {H H' : Hp} {a : Addr} {xs : List V} (s : Ext H H') (h : TupP H a xs) : TupP H' a xs := let ⟨o, z, e⟩ := h; ⟨o, z, s _ _ e fun z => z⟩
def ReachN (n : Int) (cs : List (List Int)) (ns : List Int) : Prop := ns.Pairwise (· < ·) ∧ ∀ c, c ∈ ns ↔ Reach (LL n cs) (tiesB n cs) (upto cs.length) c
section
variable {P : Program} {w : World} {K : PySem.W.Frag} {mg : Str → Option Value} {base : Heap}
abbrev sExc : Stmt := top 33
theorem scExc : FnScope ["bundle"] ["bundle"] (defScope sExc) := ⟨rfl, rfl, rfl, by decide +kernel, rfl, by decide +kernel, by decide +kernel⟩
def spExc (K : PySem.W.Frag) : Sp := fun vs H Q _ => ∃ (b : Addr) (n : Int) (cs : List (List Int)), vs = [.ref b] ∧ Bun K H b n cs ∧ GoodB n cs ∧ ∀ H', Same H H' → Q (.int ((cs.length : Int) - ((tiesB n cs).length : Int))) H'
theorem ok_exc (G : Glo mg) (cN : Cal P w K mg base 4 "need_bundle" (spNeedB K)) (cA : Cal P w K mg base 3 "all_leads" (spAll K)) (cT : ∀ L m, In7 L → Cal P w K mg base 9 "ties_of" (spTies L m)) (D : Def K mg "excess" sExc ["bundle"]) : Cal P w K mg base 10 "excess" (spExc K) := by
  refine cal D scExc (fun vs H Q E h => ?_) (fun f cdv A outer s H vs Q E hr h => ?_)
  · obtain ⟨b, n, cs, rfl, _⟩ := h
    rfl
  obtain ⟨b, n, cs, rfl, hB, hg, q⟩ := h
  refine ⟨_, pss_one (ps_ret (pe_op op_sub (pe_callB call_len_seq (by rfl) G.len b_len (pa_cons (pe_ix ix_tup (pe_c cN hr (pa_cons (pv 0) pa_nil)) pe_int (fun _ _ => rfl)) pa_nil))
    (pe_callB call_lenD (by rfl) G.len b_len (pa_cons (pe_c (cT (LL n cs) cs.length (in7_LL hg)) hr (pa_cons (pe_c cA hr (pa_cons (pv 0) pa_nil)) pa_nil)) pa_nil)))), ?_⟩
  have := hg.len
  refine ⟨_, rfl, b, n, cs, rfl, hB, hg, fun H1 s1 => ?_⟩
  obtain ⟨c, xs, a1, a2, hl⟩ := (hB.same s1).parts
  refine ⟨b, _, _, _, rfl, rfl, a1, atI_nat (xs := [V.int n, V.ref c]) (j := 1) rfl, c, _, rfl, .inr a2, _, rfl, b, n, cs, rfl, hB.same s1, hg, fun H2 d kvs s2 _ e2 k2 => ?_⟩
  refine ⟨d, kvs, rfl, e2, k2, few_LL hg, in7_LL hg, by omega, fun H3 p s3 e3 => ?_⟩
  refine ⟨p, _, rfl, e3, _, _, rfl, rfl, ?_⟩
  have := q H3 ((s1.trans s2).trans s3)
  rw [hl]
  unfold dB
  rw [List.length_map]
  exact this
abbrev sPap : Stmt := top 34
theorem scPap : FnScope ["bundle", "back"] ["bundle"] (defScope sPap) := ⟨rfl, rfl, rfl, by decide +kernel, rfl, by decide +kernel, by decide +kernel⟩
def spPap (K : PySem.W.Frag) : Sp := fun vs H Q _ => ∃ (b : Addr) (n : Int) (cs : List (List Int)), vs = [.ref b] ∧ Bun K H b n cs ∧ GoodB n cs ∧
  ∀ H' p pr nu xs ps ns, Same H H' → H' p = some (.tup [.ref pr, .ref nu]) → TupP H' pr xs → PairsAt H' xs ps → ps.Perm (matchB n cs) → ps.Pairwise LeP → H' nu = some (.tup (ns.map V.int)) → ReachN n cs ns → Q (.ref p) H'
theorem ok_pap (G : Glo mg) (cN : Cal P w K mg base 4 "need_bundle" (spNeedB K)) (cA : Cal P w K mg base 3 "all_leads" (spAll K)) (cT : ∀ L m, In7 L → Cal P w K mg base 9 "ties_of" (spTies L m)) (cP : Cal P w K mg base 1 "pairs_by" (spPairs K)) (cL : Cal P w K mg base 4 "left_over" (spLeft K)) (D : Def K mg "excess_paper" sPap ["bundle"]) : Cal P w K mg base 10 "excess_paper" (spPap K) := by
  refine cal D scPap (fun vs H Q E h => ?_) (fun f cdv A outer s H vs Q E hr h => ?_)
  · obtain ⟨b, n, cs, rfl, _⟩ := h
    rfl
  obtain ⟨b, n, cs, rfl, hB, hg, q⟩ := h
  refine ⟨_, pss_cons (ps_set (i := 1) scPap.nd rfl (.inl rfl) (pe_c (cT (LL n cs) cs.length (in7_LL hg)) hr (pa_cons (pe_c cA hr (pa_cons (pe_c cN hr (pa_cons (pv 0) pa_nil)) pa_nil)) pa_nil)))
    (pss_one (ps_ret (pe_tup (pa_cons (pe_c cP hr (pa_cons (pv 0) (pa_cons (pv 1) pa_nil))) (pa_cons (pe_callTy call_tuple_of (by rfl) G.tuple b_tuple (pa_cons (pe_c cL hr (pa_cons (pv 0) (pa_cons (pv 1) pa_nil))) pa_nil)) pa_nil))))), ?_⟩
  have := hg.len
  refine ⟨_, rfl, b, n, cs, rfl, hB, hg, fun H1 s1 => ?_⟩
  refine ⟨b, n, cs, rfl, hB.same s1, hg, fun H2 d kvs s2 _ e2 k2 => ?_⟩
  refine ⟨d, kvs, rfl, e2, k2, few_LL hg, in7_LL hg, by omega, fun H3 k s3 e3 => ?_⟩
  have s13 := (s1.trans s2).trans s3
  refine ⟨_, rfl, _, rfl, b, k, n, cs, tiesB n cs, rfl, hB.same s13, e3, tiesB_num hg, tiesB_len hg, fun H4 pr xs ps s4 pm sr tp pa => ?_⟩
  refine ⟨_, rfl, _, rfl, b, k, n, cs, rfl, hB.same (s13.trans s4), hg, s4 _ _ e3, fun H5 l ns s5 asc mem e5 => ?_⟩
  refine ⟨l, _, rfl, .inl ⟨SqL.of e5, fun nu hnu => ⟨(by show 2 ≤ sizeLine; decide), fun p hp => ?_⟩⟩⟩
  have s6 := same_new (.tup (ns.map V.int)) hnu
  have s7 := same_new (.tup [V.ref pr, V.ref nu]) hp
  have s57 := (s5.trans s6).trans s7
  exact q _ p pr nu xs ps ns ((s13.trans s4).trans s57) upd_same (TupP.same s57 tp) (PairsAt.same s57 pa) pm sr (s7 _ _ upd_same) ⟨asc, mem⟩
abbrev sChk : Stmt := top 35
theorem scChk : FnScope ["bundle", "paper", "pairs", "numbers"] ["bundle", "paper"] (defScope sChk) := ⟨rfl, rfl, rfl, by decide +kernel, rfl, by decide +kernel, by decide +kernel⟩
def spChk (K : PySem.W.Frag) : Sp := fun vs H Q _ => ∃ (b t pr nu : Addr) (n : Int) (cs : List (List Int)) (xs : List V) (ps : List (Int × Int)) (ns : List Int), vs = [.ref b, .ref t] ∧ Bun K H b n cs ∧ GoodB n cs ∧ SqT K H t [.ref pr, .ref nu] ∧ SqT K H pr xs ∧ PairsAt H xs ps ∧ GoodM cs ps ∧ SqT K H nu (ns.map V.int) ∧ GoodN cs ns ∧
  (∀ nm, NamesAre cs ns nm → (cs.length : Int) - (ps.length : Int) = (ns.length : Int) - (nm.length : Int)) ∧ ∀ H', Same H H' → Q (.int ((cs.length : Int) - (ps.length : Int))) H'
theorem ok_chk (G : Glo mg) (cN : Cal P w K mg base 4 "need_bundle" (spNeedB K)) (cM : Cal P w K mg base 3 "is_matching" (spIsM K)) (cA : Cal P w K mg base 3 "are_numbers" (spAreN K)) (cI : Cal P w K mg base 2 "more_in" (spMoreIn K)) (D : Def K mg "check_excess" sChk ["bundle", "paper"]) : Cal P w K mg base 5 "check_excess" (spChk K) := by
  refine cal D scChk (fun vs H Q E h => ?_) (fun f cdv A outer s H vs Q E hr h => ?_)
  · obtain ⟨b, t, pr, nu, n, cs, xs, ps, ns, rfl, _⟩ := h
    rfl
  obtain ⟨b, t, pr, nu, n, cs, xs, ps, ns, rfl, hB, hg, ht, hp, hx, hm, hn, hgn, he, q⟩ := h
  refine ⟨_, pss_cons (ps_expr (pe_c cN hr (pa_cons (pv 0) pa_nil)))
    (pss_cons (ps_if (PW.pt (pw_or (pt_not (pt_val (pe_callB call_isi (by rfl) G.isinstance b_isinstance (pa_cons (pv 1) (pa_cons (pe_bltn (v := .ty "tuple") (by rfl) G.tuple b_tuple rfl) pa_nil)))))
        (pw_or1 (pt_cmpR op_ne (pe_callB call_len_seq (by rfl) G.len b_len (pa_cons (pv 1) pa_nil)) pe_int (nomark _))))) pss_never pss_nil)
    (pss_cons (ps_asg (pv 1) (pg_tup (by rfl) (pgs_cons (pg_name (i := 2) scChk.nd rfl (.inl rfl)) (pgs_cons (pg_name (i := 3) scChk.nd rfl (.inl rfl)) pgs_nil))))
    (pss_cons (ps_if (pt_not (pt_val (pe_c cM hr (pa_cons (pv 0) (pa_cons (pv 2) pa_nil))))) pss_never pss_nil)
    (pss_cons (ps_if (pt_not (pt_val (pe_c cA hr (pa_cons (pv 0) (pa_cons (pv 3) pa_nil))))) pss_never pss_nil)
    (pss_cons (ps_if (pt_cmpR op_ne (pe_op op_sub (pe_callB call_len_seq (by rfl) G.len b_len (pa_cons (pe_ix ix_tup (pv 0) pe_int (fun _ _ => rfl)) pa_nil)) (pe_callB call_len_seq (by rfl) G.len b_len (pa_cons (pv 2) pa_nil))) (pe_c cI hr (pa_cons (pv 0) (pa_cons (pv 3) pa_nil))) (nomark _)) pss_never pss_nil)
    (pss_one (ps_ret (pe_c cI hr (pa_cons (pv 0) (pa_cons (pv 3) pa_nil)))))))))), ?_⟩
  refine ⟨_, rfl, b, n, cs, rfl, hB, hg, fun H1 s1 => ?_⟩
  refine ⟨_, rfl, _, _, _, _, _, rfl, .ty "tuple", ty_tup (Same.tup s1 ht), k_tup_tup, _, rfl, iteF ⟨_, rfl, t, _, rfl, .inr (Same.tup s1 ht), rfl, _, rfl, iteB rfl ?_⟩⟩
  refine ⟨_, rfl, t, _, rfl, Same.tup s1 ht, rfl, _, _, rfl, _, _, rfl, rfl, ?_⟩
  refine ⟨_, rfl, _, rfl, b, pr, n, cs, xs, ps, rfl, hB.same s1, hg, Same.tup s1 hp, PairsAt.same s1 hx, hm, fun H2 s2 => ⟨_, rfl, iteB rfl ?_⟩⟩
  have s12 := s1.trans s2
  refine ⟨_, rfl, _, rfl, b, nu, n, cs, ns, rfl, hB.same s12, hg, Same.tup s12 hn, hgn, fun H3 s3 => ⟨_, rfl, iteB rfl ?_⟩⟩
  have s13 := s12.trans s3
  obtain ⟨c, ys, a1, a2, hl⟩ := (hB.same s13).parts
  have lx : xs.length = ps.length := Paired.length hx
  refine ⟨_, rfl, b, _, _, _, rfl, rfl, a1, atI_nat (xs := [V.int n, V.ref c]) (j := 1) rfl, c, _, rfl, .inr a2, _, rfl, pr, _, rfl, .inr (Same.tup s13 hp), _, _, rfl, rfl, ?_⟩
  refine ⟨_, rfl, _, rfl, b, nu, n, cs, ns, rfl, hB.same s13, hg, Same.tup s13 hn, hgn, fun H4 nm s4 hnm => ?_⟩
  refine ⟨rfl, _, rfl, iteB ?_ ?_⟩
  · have := he nm hnm
    rw [hl, lx]
    show (!decide (V.int ((cs.length : Int) - (ps.length : Int)) = V.int ((ns.length : Int) - (nm.length : Int)))) = false
    rw [this, decide_eq_true rfl]
    rfl
  have s14 := s13.trans s4
  refine ⟨_, rfl, _, rfl, b, nu, n, cs, ns, rfl, hB.same s14, hg, Same.tup s14 hn, hgn, fun H5 nm5 s5 hnm5 => ?_⟩
  rw [← he nm5 hnm5]
  exact q H5 (s14.trans s5)
end
end IdW
end
section
set_option maxRecDepth 100000
namespace IdW
open PySem PySem.Spec PyProof.Rows L2 IdR RZ Idle
section
variable {P : Program} {w : World} {K : PySem.W.Frag} {mg : Str → Option Value} {base : Heap}
abbrev sMixed : Stmt := top 37
theorem scMixed : FnScope ["cell", "k"] ["cell", "k"] (defScope sMixed) := ⟨rfl, rfl, rfl, by decide +kernel, rfl, by decide +kernel, by decide +kernel⟩
def spMixed : Sp := fun vs H Q _ => ∃ c k : Int, vs = [.int c, .int k] ∧ 0 ≤ k ∧ k < 4294967296 ∧ ∀ r : Int, 0 ≤ r → r < 2147483629 → Q (.int r) H
theorem ok_mixed (G : Glo mg) (D : Def K mg "_law_mixed" sMixed ["cell", "k"]) : Cal P w K mg base 1 "_law_mixed" spMixed := by
  refine cal D scMixed (fun vs H Q E h => ?_) (fun f cdv A outer s H vs Q E hr h => ?_)
  · obtain ⟨c, k, rfl, _⟩ := h
    rfl
  obtain ⟨c, k, rfl, k0, k1, q⟩ := h
  refine ⟨_, pss_cons (ps_set (i := 0) scMixed.nd rfl (.inl rfl) (pe_op op_mod (pe_callTy call_int1 (by rfl) G.int b_int (pa_cons (pv 0) pa_nil)) pe_int))
    (pss_one (ps_ret (pe_op op_mod (pe_op op_mul (pe_op op_mod (pe_op op_add (pe_op op_add (pe_op op_mul (pv 0) (pe_op op_add pe_int (pe_op op_mul (pe_op op_mul pe_int (pv 1)) (pv 1)))) (pe_op op_mul pe_int (pv 1))) pe_int) pe_int) pe_int) pe_int))), ?_⟩
  have m1 := Int.emod_nonneg c (show (2147483647 : Int) ≠ 0 by decide)
  have m2 := Int.emod_lt_of_pos c (show (0 : Int) < 2147483647 by decide)
  refine ⟨_, rfl, .inl ⟨c, rfl, c, 2147483647, rfl, rfl, (by show (0 : Int) < 2147483647; decide), ?_⟩⟩
  refine ⟨_, rfl, _, rfl, _, _, rfl, rfl, .inl ⟨by omega, by omega⟩, _, rfl, _, _, rfl, rfl, .inl ⟨by omega, by omega⟩, _, _, rfl, rfl, _, _, rfl, rfl, .inl ⟨by omega, by omega⟩, _, rfl, _, _, rfl, rfl, .inl ⟨by omega, by omega⟩, _, _, rfl, rfl, _, _, rfl, rfl, _, _, rfl, rfl, (by show (0 : Int) < 2147483647; decide), ?_⟩
  generalize hx : (c % 2147483647 * (48271 + 2 * k * k) + 69621 * k + 11) % 2147483647 = x
  have x1 : 0 ≤ x := by rw [← hx]; exact Int.emod_nonneg _ (by decide)
  have x2 : x < 2147483647 := by rw [← hx]; exact Int.emod_lt_of_pos _ (by decide)
  refine ⟨x, _, by rw [← hx], rfl, .inl ⟨by omega, by omega⟩, _, _, rfl, rfl, (by show (0 : Int) < 2147483629; decide), ?_⟩
  exact q _ (Int.emod_nonneg _ (by decide)) (Int.emod_lt_of_pos _ (by decide))
/-! ### the state of the draws -/
def stD (c l : Addr) (a : Int) : List (Key × V) := [(Sum.inr "cells", .ref c), (Sum.inr "lefts", .ref l), (Sum.inr "at", .int a), (Sum.inr "room", .int 0)]
theorem ne1 : ¬ ("cells" : Str) = "lefts" := by decide +kernel
theorem ne2 : ¬ ("cells" : Str) = "at" := by decide +kernel
theorem ne3 : ¬ ("lefts" : Str) = "at" := by decide +kernel
theorem ne4 : ¬ ("room" : Str) = "at" := by decide +kernel
theorem ne5 : ¬ ("cells" : Str) = "room" := by decide +kernel
theorem ne6 : ¬ ("lefts" : Str) = "room" := by decide +kernel
theorem ne7 : ¬ ("at" : Str) = "room" := by decide +kernel
theorem st_cells (c l : Addr) (a : Int) : valV (stD c l a) (Sum.inr "cells") = some (.ref c) := by simp [valV, stD, List.find?_cons]
theorem st_lefts (c l : Addr) (a : Int) : valV (stD c l a) (Sum.inr "lefts") = some (.ref l) := by simp [valV, stD, List.find?_cons, ne1]
theorem st_at (c l : Addr) (a : Int) : valV (stD c l a) (Sum.inr "at") = some (.int a) := by simp [valV, stD, List.find?_cons, ne2, ne3]
theorem st_put (c l : Addr) (a b : Int) : putK (stD c l a) (Sum.inr "at") (.int b) = stD c l b := by simp [putK, stD, ne2, ne3, ne4]
/-- the state at st, its lists, at most N draws so far -/
def StI (H : Hp) (st l c : Addr) (N : Nat) : Prop := ∃ (a : Int) (xs ls : List Int), H st = some (.dK (stD c l a)) ∧ H c = some (.lst (xs.map V.int)) ∧ H l = some (.lst (ls.map V.int)) ∧ xs.length = ls.length ∧ 1 ≤ xs.length ∧ xs.length ≤ 1000 ∧ c ≠ l ∧ 0 ≤ a ∧ a ≤ N
theorem StI.mono {H : Hp} {st l c : Addr} {N M : Nat} (h : StI H st l c N) (hm : N ≤ M) : StI H st l c M := let ⟨a, xs, ls, h1, h2, h3, h4, h5, h6, h7, h8, h9⟩ := h; ⟨a, xs, ls, h1, h2, h3, h4, h5, h6, h7, h8, by omega⟩
theorem StI.same {H H' : Hp} {st l c : Addr} {N : Nat} (s : Same H H') (h : StI H st l c N) : StI H' st l c N := let ⟨a, xs, ls, h1, h2, h3, r⟩ := h; ⟨a, xs, ls, s _ _ h1, s _ _ h2, s _ _ h3, r⟩
theorem StI.has {H : Hp} {st l c : Addr} {N : Nat} (h : StI H st l c N) : (∃ kvs, H st = some (.dK kvs)) ∧ (∃ xs, H l = some (.lst xs)) ∧ ∃ xs, H c = some (.lst xs) := let ⟨a, xs, ls, h1, h2, h3, _⟩ := h; ⟨⟨_, h1⟩, ⟨_, h3⟩, _, h2⟩
theorem StI.of {H H' : Hp} {st l c : Addr} {N : Nat} (h : StI H st l c N) (k : ∀ b o, b = st ∨ b = l ∨ b = c → H b = some o → H' b = some o) : StI H' st l c N := let ⟨a, xs, ls, h1, h2, h3, r⟩ := h; ⟨a, xs, ls, k _ _ (.inl rfl) h1, k _ _ (.inr (.inr rfl)) h2, k _ _ (.inr (.inl rfl)) h3, r⟩
/-- a place of one's own is none of the state's -/
structure Apart (st l c a : Addr) : Prop where
  st : a ≠ st
  l : a ≠ l
  c : a ≠ c
theorem StI.apart {H : Hp} {st l c a : Addr} {N : Nat} (h : StI H st l c N) (n : H a = none) : Apart st l c a :=
  let ⟨⟨_, e1⟩, ⟨_, e2⟩, _, e3⟩ := h.has
  ⟨(ne_of_none e1 n).symm, (ne_of_none e2 n).symm, (ne_of_none e3 n).symm⟩
theorem StI.upd {H : Hp} {st l c a : Addr} {N : Nat} {o : HO} (h : StI H st l c N) (n : Apart st l c a) : StI (upd H a o) st l c N := h.of fun b u hb e => by
  have hn : b ≠ a := by
    rcases hb with z | z | z
    · rw [z]; exact n.st.symm
    · rw [z]; exact n.l.symm
    · rw [z]; exact n.c.symm
  rw [upd_ne hn]
  exact e
theorem StI.ext {H H' : Hp} {st l c : Addr} {N : Nat} (h : StI H st l c N) (k : But [st, l] H H') : Ext H H' := by
  obtain ⟨⟨kvs, e1⟩, ⟨xs, e2⟩, _⟩ := h.has
  refine Ext.but k fun b hb o eo => ?_
  rcases List.mem_cons.mp hb with e | hb
  · rw [e] at eo; exact mutD e1 o eo
  · rw [List.mem_singleton.mp hb] at eo; exact mutL e2 o eo
/-- what is not the state's own stands as before -/
theorem StI.keeps {H H' : Hp} {st l c : Addr} {N : Nat} (h : StI H st l c N) (k : But [st, l] H H') {a : Addr} {o : HO} (e : H a = some o) (ha : a ≠ st) (hl : a ≠ l) : H' a = some o := k a o (by simp [ha, hl]) e
abbrev sBegin : Stmt := top 38
theorem scBegin : FnScope ["script", "cells", "cell"] ["script"] (defScope sBegin) := ⟨rfl, rfl, rfl, by decide +kernel, rfl, by decide +kernel, by decide +kernel⟩
def spBegin (K : PySem.W.Frag) : Sp := fun vs H Q _ => ∃ (a : Addr) (ns : List Int), vs = [.ref a] ∧ SqL K H a (ns.map V.int) ∧ ns.length ≤ 63 ∧ ∀ H' st l c, Same H H' → H st = none → H l = none → H c = none → StI H' st l c 0 → Q (.ref st) H'
theorem ok_begin (G : Glo mg) (D : Def K mg "_law_begin" sBegin ["script"]) : Cal P w K mg base 1 "_law_begin" (spBegin K) := by
  refine cal D scBegin (fun vs H Q E h => ?_) (fun f cdv A outer s H vs Q E hr h => ?_)
  · obtain ⟨a, ns, rfl, _⟩ := h
    rfl
  obtain ⟨a, ns, rfl, ha, hz, q⟩ := h
  refine ⟨_, pss_cons (ps_set (i := 1) scBegin.nd rfl (.inl rfl) (pe_ifExp (pt_cmpR (op_neD hr.units) (pv 0) (pe_lst pa_nil) (nomark _)) (pe_callTy call_list_of (by rfl) G.list b_list (pa_cons (pv 0) pa_nil)) (pe_lst (pa_cons pe_int pa_nil))))
    (pss_one (ps_ret (pe_disp (pps_cons pe_str (pv 1) (pps_cons pe_str
      (pe_lc (own := [("cell", 2)]) (g := gName 2) (tt := tYes) rfl scBegin.nd (pi_list (pv 1)) (blkOk_by (N := ["script", "cells", "cell"]) (sc := defScope sBegin) (by decide +kernel))
          (fun _ _ _ _ _ => pg_name (i := 2) scBegin.nd rfl (Or.inl rfl) (Or.inr rfl)) (fun _ _ _ _ _ => pts_nil)
          (fun _ _ _ _ _ => pe_ifExp (pt_cmpR op_ge (pv 2) (pe_op op_pow pe_int pe_int) (nomark _)) (pv 2) pe_int))
      (pps_cons pe_str pe_int (pps_cons pe_str pe_int pps_nil)))) (by rfl) (by rfl) (fun z => by cases z) (by decide)))), ?_⟩
  refine ⟨_, rfl, (by show 0 ≤ sizeLine; decide), fun pe hpe => ?_⟩
  have s9 := same_new (.lst []) hpe
  refine ⟨.list (ns.map .int), .list [], .lst (s9.seq ha) (dpAll_ints ns), .lst (SqL.of upd_same) .nil, PySem.W.ke_shaped_ints ns, PySem.W.ke_shaped_ints [], _, rfl, ?_⟩
  rw [eqv_nil]
  have g1 := s9.seq (K := K) ha
  generalize upd H pe (.lst []) = H9 at s9 g1
  by_cases hn : ns = []
  case' pos =>
    rw [decide_eq_true hn]
    refine iteF ⟨(by show 1 ≤ sizeLine; decide), fun c hc => ?_⟩
    obtain ⟨xs, hx, x1, x2⟩ : ∃ xs : List Int, ([V.int 0] : List V) = xs.map V.int ∧ 1 ≤ xs.length ∧ xs.length ≤ 63 := ⟨[0], rfl, by simp, by simp⟩
    rw [hx]
  case' neg =>
    rw [decide_eq_false hn]
    refine iteT ⟨_, rfl, a, _, rfl, .inl g1, fun c hc => ?_⟩
    obtain ⟨xs, hx, x1, x2⟩ : ∃ xs : List Int, ns.map V.int = xs.map V.int ∧ 1 ≤ xs.length ∧ xs.length ≤ 63 := ⟨ns, rfl, by
      have : ns.length ≠ 0 := fun z => hn (List.length_eq_zero_iff.mp z)
      omega, hz⟩
    rw [hx]
  all_goals
    have s1 := same_new (.lst (xs.map V.int)) hc
    have e1 : (upd H9 c (.lst (xs.map V.int))) c = some (.lst (xs.map V.int)) := upd_same
    generalize upd H9 c (.lst (xs.map V.int)) = H1 at s1 e1
    intro p hp
    have sp := same_new (.dK []) hp
    refine ⟨_, rfl, _, rfl, c, rfl, ⟨_, SqL.of (sp _ _ e1)⟩, fun D hD => ?_⟩
    refine lc_map (y_list (K := K) (a := c) (xs := xs.map V.int)).map hD (fun H2 s2 => SqL.of (s2 _ _ (sp _ _ e1))) (fun x => .int (if x ≥ 10 ^ 18 then x else 0)) (by omega) (fun x v H2 hm s2 hv R R' hR => ?_) fun H2 s2 e2 => ?_
    · subst hv
      refine ⟨rfl, yes ⟨_, rfl, _, _, rfl, rfl, ⟨by decide, by decide, by decide⟩, _, _, rfl, rfl, _, rfl, ?_⟩⟩
      have hR := hR H2 (Same.refl _)
      by_cases hge : (10 : Int) ^ 18 ≤ x
      · rw [if_pos hge] at hR
        refine ite2 (fun z => ⟨_, rfl, hR⟩) (fun z => absurd (decide_eq_true hge) z)
      · rw [if_neg hge] at hR
        refine ite2 (fun z => absurd (of_decide_eq_true z) hge) (fun z => hR)
    · have pD : p ≠ D := ne_of_none (upd_same (H := H1)) hD
      have p2 := s2 _ _ (upd_same (H := H1) (a := p) (o := .dK []))
      refine ⟨p2, [(Sum.inr "cells", .ref c), (Sum.inr "lefts", .ref D), (Sum.inr "at", .int 0), (Sum.inr "room", .int 0)], rfl, (by show 4 ≤ 15; decide), ?_⟩
      have em : mergeK [] [(Sum.inr "cells", V.ref c), (Sum.inr "lefts", V.ref D), (Sum.inr "at", V.int 0), (Sum.inr "room", V.int 0)] = stD c D 0 := by
        simp [mergeK, putK, stD, ne1, ne2, ne3, ne5, ne6, ne7]
      rw [em]
      have sall : Same H H1 := s9.trans s1
      have c2 := s2 _ _ (sp _ _ e1)
      have nc : c ≠ p := ne_of_none e1 hp
      refine q _ p D c (fun b o eb => ?_) (sall.free hp) (sall.free (sp.free hD)) (s9.free hc) ⟨0, xs, xs.map (fun x => if x ≥ 10 ^ 18 then x else 0), upd_same, by rw [upd_ne nc]; exact c2, by rw [upd_ne pD.symm, e2, List.map_map]; rfl, by rw [List.length_map], x1, by omega, ne_of_none (sp _ _ e1) hD, by omega, by omega⟩
      rw [upd_ne (ne_of_none (sall _ _ eb) hp)]
      exact s2 _ _ (sp _ _ (sall _ _ eb))
abbrev sDraw : Stmt := top 39
theorem scDraw : FnScope ["state", "many", "at", "place", "left", "number"] ["state", "many"] (defScope sDraw) := ⟨rfl, rfl, rfl, by decide +kernel, rfl, by decide +kernel, by decide +kernel⟩
def spDraw : Sp := fun vs H Q _ => ∃ (st l c : Addr) (N : Nat) (many : Int), vs = [.ref st, .int many] ∧ StI H st l c N ∧ N ≤ 100000 ∧ 0 < many ∧ many < 1073741824 ∧ ∀ H' v, But [st, l] H H' → StI H' st l c (N + 1) → 0 ≤ v → v < many → Q (.int v) H'
theorem ok_draw (G : Glo mg) (cX : Cal P w K mg base 1 "_law_mixed" spMixed) (D : Def K mg "_law_draw" sDraw ["state", "many"]) : Cal P w K mg base 2 "_law_draw" spDraw := by
  refine cal D scDraw (fun vs H Q E h => ?_) (fun f cdv A outer s H vs Q E hr h => ?_)
  · obtain ⟨st, l, c, N, many, rfl, _⟩ := h
    rfl
  obtain ⟨st, l, c, N, many, rfl, ⟨a, xs, ls, h1, h2, h3, h4, h5, h6, h7, h8, h9⟩, hN, m0, m1, q⟩ := h
  have hu := hu_of hr
  refine ⟨_, pss_cons (ps_set (i := 2) scDraw.nd rfl (.inl rfl) (pe_dget hu (pv 0) pe_str (fun _ _ => rfl)))
    (pss_cons (ps_dput hu (pv 0) pe_str (pe_op op_add (pv 2) pe_int) rfl)
    (pss_cons (ps_set (i := 3) scDraw.nd rfl (.inl rfl) (pe_op op_mod (pe_callTy call_int1 (by rfl) G.int b_int (pa_cons (pv 2) pa_nil)) (pe_callB call_len_seq (by rfl) G.len b_len (pa_cons (pe_dget hu (pv 0) pe_str (fun _ _ => rfl)) pa_nil))))
    (pss_cons (ps_set (i := 4) scDraw.nd rfl (.inl rfl) (pe_ix ix_list (pe_dget hu (pv 0) pe_str (fun _ _ => rfl)) (pv 3) (fun _ _ => rfl)))
    (pss_cons (ps_if (pt_cmpR op_gt (pv 4) pe_int (nomark _))
      (pss_cons (ps_asg (pe_op op_fdiv (pv 4) (pv 1)) (pg_sub (pe_dget hu (pv 0) pe_str (fun _ _ => rfl)) (pv 3) set_list))
        (pss_one (ps_ret (pe_op op_mod (pe_callTy call_int1 (by rfl) G.int b_int (pa_cons (pv 4) pa_nil)) (pv 1))))) pss_nil)
    (pss_cons (ps_set (i := 5) scDraw.nd rfl (.inl rfl) (pe_c cX hr (pa_cons (pe_c cX hr (pa_cons (pe_ix ix_list (pe_dget hu (pv 0) pe_str (fun _ _ => rfl)) (pv 3) (fun _ _ => rfl)) (pa_cons (pv 2) pa_nil))) (pa_cons (pe_op op_add pe_int (pv 2)) pa_nil))))
    (pss_one (ps_ret (pe_op op_mod (pe_op op_fdiv (pe_callTy call_int1 (by rfl) G.int b_int (pa_cons (pe_op op_add (pe_op op_mul (pv 5) pe_int) (pe_c cX hr (pa_cons (pv 5) (pa_cons (pe_op op_add pe_int (pv 2)) pa_nil)))) pa_nil)) pe_int) (pv 1))))))))), ?_⟩
  have dg : ∀ {H : Hp} {a : Int} {x : Str} {v : V}, H st = some (.dK (stD c l a)) → valV (stD c l a) (Sum.inr x) = some v → DGet H st (kV (Sum.inr x)) (some v) := fun h e => dget_r (.inl h) e
  refine ⟨_, rfl, st, _, rfl, dg h1 (st_at c l a), ?_⟩
  refine ⟨_, rfl, _, _, rfl, rfl, _, rfl, st, _, rfl, DPut.k (k := Sum.inr "at") h1 (show 4 < sizeLine by decide), ?_⟩
  rw [st_put]
  have nst : c ≠ st := ne_of h2 h1 fun z => by cases z
  have nlt : l ≠ st := ne_of h3 h1 fun z => by cases z
  have b2 : But [st, l] H (upd H st (.dK (stD c l (a + 1)))) := But.set (by simp)
  have i1 : (upd H st (.dK (stD c l (a + 1)))) st = some (.dK (stD c l (a + 1))) := upd_same
  have i2 : (upd H st (.dK (stD c l (a + 1)))) c = some (.lst (xs.map V.int)) := by rw [upd_ne nst]; exact h2
  have i3 : (upd H st (.dK (stD c l (a + 1)))) l = some (.lst (ls.map V.int)) := by rw [upd_ne nlt]; exact h3
  generalize upd H st (.dK (stD c l (a + 1))) = H2 at b2 i1 i2 i3
  have p0 := Int.emod_nonneg a (show ((xs.length : Nat) : Int) ≠ 0 by omega)
  have p1 := Int.emod_lt_of_pos a (show (0 : Int) < ((xs.length : Nat) : Int) by omega)
  have lm : (xs.map V.int).length = xs.length := List.length_map _
  refine ⟨_, rfl, .inl ⟨a, rfl, _, rfl, st, _, rfl, dg i1 (st_cells c l _), c, _, rfl, .inl (SqL.of i2), a, _, rfl, rfl, (by show (0 : Int) < (((xs.map V.int).length : Nat) : Int); omega), ?_⟩⟩
  rw [lm]
  obtain ⟨pl, hpl⟩ : ∃ pl : Int, pl = a % ((xs.length : Nat) : Int) := ⟨_, rfl⟩
  rw [← hpl] at p0 p1
  have jl : pl.toNat < ls.length := by omega
  have jx : pl.toNat < xs.length := by omega
  have el : (ls.map V.int)[pl.toNat]? = some (V.int ls[pl.toNat]) := by rw [List.getElem?_map, List.getElem?_eq_getElem jl]; rfl
  have ex : (xs.map V.int)[pl.toNat]? = some (V.int xs[pl.toNat]) := by rw [List.getElem?_map, List.getElem?_eq_getElem jx]; rfl
  refine ⟨_, rfl, st, _, rfl, dg i1 (st_lefts c l _), _, rfl, l, _, _, _, rfl, rfl, SqL.of i3, at_of (j := pl.toNat) (by show a % ((xs.length : Nat) : Int) = _; omega) el, ?_⟩
  have done : ∀ H' (ls' : List Int), But [st, l] H H' → H' st = some (.dK (stD c l (a + 1))) → H' c = some (.lst (xs.map V.int)) → H' l = some (.lst (ls'.map V.int)) → ls'.length = ls.length → StI H' st l c (N + 1) := fun H' ls' _ e1 e2 e3 e4 =>
    ⟨a + 1, xs, ls', e1, e2, e3, by omega, h5, h6, h7, by omega, by omega⟩
  refine ⟨_, rfl, _, _, rfl, rfl, _, rfl, ite2 (fun hp => ?_) fun hp => ?_⟩
  · refine ⟨_, rfl, _, rfl, _, _, rfl, rfl, ⟨m0, m1⟩, _, rfl, st, _, rfl, dg i1 (st_lefts c l _), _, rfl, l, _, _, pl.toNat, rfl, rfl, i3, ?_, ?_⟩
    · rw [List.length_map]
      show ixN ls.length (a % ((xs.length : Nat) : Int)) = _
      rw [← hpl]
      unfold ixN
      rw [if_pos p0, if_pos (by omega)]
    · have es : (ls.map V.int).set pl.toNat (V.int (ls[pl.toNat] / many)) = (ls.set pl.toNat (ls[pl.toNat] / many)).map V.int := by rw [List.map_set]
      refine ⟨_, rfl, .inl ⟨_, rfl, _, rfl, _, _, rfl, rfl, m0, ?_⟩⟩
      refine q _ _ (but_upd b2 (by simp)) (done _ (ls.set pl.toNat (ls[pl.toNat] / many)) (but_upd b2 (by simp)) ?_ ?_ ?_ (List.length_set ..)) (Int.emod_nonneg _ (by omega)) (Int.emod_lt_of_pos _ m0)
      · rw [upd_ne nlt.symm]; exact i1
      · rw [upd_ne h7]; exact i2
      · rw [upd_same, es]
  · refine ⟨_, rfl, st, _, rfl, dg i1 (st_cells c l _), _, rfl, c, _, _, _, rfl, rfl, SqL.of i2, at_of (j := pl.toNat) (by show a % ((xs.length : Nat) : Int) = _; omega) ex, _, rfl, _, a, rfl, h8, by omega, fun r r0 r1 => ?_⟩
    refine ⟨_, rfl, _, _, rfl, rfl, r, _, rfl, by omega, by omega, fun r2 r20 r21 => ?_⟩
    refine ⟨_, rfl, _, _, rfl, rfl, .inl ⟨by omega, by omega⟩, _, rfl, _, rfl, _, _, rfl, rfl, r2, _, rfl, by omega, by omega, fun r3 r30 r31 => ?_⟩
    refine ⟨_, _, rfl, rfl, .inl ⟨_, rfl, _, _, rfl, rfl, ⟨by decide, by decide⟩, _, rfl, _, _, rfl, rfl, m0, ?_⟩⟩
    exact q _ _ b2 (done _ ls b2 i1 i2 i3 rfl) (Int.emod_nonneg _ (by omega)) (Int.emod_lt_of_pos _ m0)
end
end IdW
end
section
set_option maxRecDepth 100000
namespace IdW
open PySem PySem.Spec PyProof.Rows L2 IdR RZ Idle
/-! ### pairs of a name and its literal, sorted: a good clause -/
theorem goodC_of {n : Int} {ps qs : List (Int × Int)} (h : ∀ p ∈ ps, (1 ≤ p.1 ∧ p.1 ≤ n) ∧ ab p.2 = p.1) (hn : (ps.map (·.1)).Nodup) (hp : qs.Perm ps) (hs : qs.Pairwise LeP) : GoodC n (qs.map (·.2)) := by
  have hq : ∀ q ∈ qs, (1 ≤ q.1 ∧ q.1 ≤ n) ∧ ab q.2 = q.1 := fun q hq => h q (hp.mem_iff.mp hq)
  have e : (qs.map (·.2)).map ab = qs.map (·.1) := by
    rw [List.map_map]
    exact List.map_congr_left fun q hm => (hq q hm).2
  refine ⟨fun l hl => ?_, ?_⟩
  · obtain ⟨q, hm, el⟩ := List.mem_map.mp hl
    rw [← el, (hq q hm).2]
    exact (hq q hm).1
  · rw [e]
    refine asc_of (List.pairwise_map.mpr (hs.imp fun z => ?_)) ((hp.map _).nodup_iff.mpr hn)
    rw [LeP.iff] at z
    omega
theorem take_out {fr : List Int} {k : Nat} {x : Int} (h : fr[k]? = some x) (hn : fr.Nodup) : (fr.eraseIdx k).Nodup ∧ x ∉ fr.eraseIdx k ∧ (∀ y ∈ fr.eraseIdx k, y ∈ fr) ∧ (fr.eraseIdx k).length + 1 = fr.length ∧ x ∈ fr ∧ ((fr.map V.int).eraseIdx k) = (fr.eraseIdx k).map V.int := by
  have e := split_at h
  have hk := (List.getElem?_eq_some_iff.mp h).1
  have e2 : fr.eraseIdx k = fr.take k ++ fr.drop (k + 1) := List.eraseIdx_eq_take_drop_succ ..
  have e3 : (fr.map V.int).eraseIdx k = (fr.map V.int).take k ++ (fr.map V.int).drop (k + 1) := List.eraseIdx_eq_take_drop_succ ..
  rw [e2, e3]
  rw [e] at hn
  obtain ⟨n1, n2, n3⟩ := List.nodup_append.mp hn
  obtain ⟨n4, n5⟩ := List.nodup_cons.mp n2
  refine ⟨List.nodup_append.mpr ⟨n1, n5, fun a ha b hb => n3 a ha b (List.mem_cons_of_mem _ hb)⟩, fun z => ?_, fun y hy => ?_, ?_, List.mem_of_getElem? h, ?_⟩
  · rcases List.mem_append.mp z with z | z
    · exact n3 x z x List.mem_cons_self rfl
    · exact n4 z
  · rcases List.mem_append.mp hy with hy | hy
    · exact List.mem_of_mem_take hy
    · exact List.mem_of_mem_drop hy
  · rw [List.length_append, List.length_take, List.length_drop]
    omega
  · rw [List.map_append, List.map_take, List.map_drop]
theorem seq_at {j : Int} {n : Nat} (h0 : 0 ≤ j) (h1 : j < n) : seqIndex? j n = some j.toNat := by
  have h : ¬ j < 0 := by omega
  simp [seqIndex?, h, h0, h1]
section
variable {P : Program} {w : World} {K : PySem.W.Frag} {mg : Str → Option Value} {base : Heap}
abbrev sLCl : Stmt := top 40
theorem scLCl : FnScope ["state", "names", "left", "got", "k", "name", "pair"] ["state", "names"] (defScope sLCl) := ⟨rfl, rfl, rfl, by decide +kernel, rfl, by decide +kernel, by decide +kernel⟩
def spLCl : Sp := fun vs H Q _ => ∃ (st l c : Addr) (N : Nat) (n : Int), vs = [.ref st, .int n] ∧ StI H st l c N ∧ N ≤ 90000 ∧ 1 ≤ n ∧ n ≤ 7 ∧ ∀ H' p r, But [st, l] H H' → StI H' st l c (N + 20) → GoodC n r → H p = none → H' p = some (.tup (r.map V.int)) → Q (.ref p) H'
theorem ok_lcl (G : Glo mg) (cD : Cal P w K mg base 2 "_law_draw" spDraw) (D : Def K mg "_law_clause" sLCl ["state", "names"]) : Cal P w K mg base 3 "_law_clause" spLCl := by
  refine cal D scLCl (fun vs H Q E h => ?_) (fun f cdv A outer s H vs Q E hr h => ?_)
  · obtain ⟨st, l, c, N, n, rfl, _⟩ := h
    rfl
  obtain ⟨st, l, c, N, n, rfl, hS, hN, n1, n7, q⟩ := h
  refine ⟨_, pss_cons (ps_par (i := 2) (j := 3) rfl scLCl.nd rfl rfl (by decide) rfl rfl (pa_cons (pe_listRg rfl (by rfl) G.list (prg_2 (by rfl) G.range pe_int (pe_op op_add (pv 1) pe_int))) (pa_cons (pe_lst pa_nil) pa_nil)) (by rfl))
    (pss_cons (ps_for PassesOwn.never rfl (pi_range1 (by rfl) G.range (pa_cons (pe_op op_add pe_int (pe_c cD hr (pa_cons (pv 0) (pa_cons (pe_callB (call_min2 rfl) (by rfl) G.min b_min (pa_cons pe_int (pa_cons (pv 1) pa_nil))) pa_nil)))) pa_nil)) (pg_name (i := 4) scLCl.nd rfl (.inl rfl))
      (pss_cons (ps_set (i := 5) scLCl.nd rfl (.inl rfl) (pe_bm PySem.F.plainAttrs_list PySem.F.slot_list_pop PySem.F.type_list_pop mt_popAt (pv 2) (pa_cons (pe_c cD hr (pa_cons (pv 0) (pa_cons (pe_callB call_len_seq (by rfl) G.len b_len (pa_cons (pv 2) pa_nil)) pa_nil))) pa_nil)))
      (pss_one (ps_expr (pe_bm PySem.F.plainAttrs_list PySem.F.slot_list_append PySem.F.type_list_append mt_append (pv 3) (pa_cons (pe_tup (pa_cons (pv 5) (pa_cons (pe_op op_mul (pv 5) (pe_ix ix_list (pe_lst (pa_cons pe_int (pa_cons (pe_un un_neg pe_int) pa_nil))) (pe_c cD hr (pa_cons (pv 0) (pa_cons pe_int pa_nil))) (fun _ _ => rfl))) pa_nil))) pa_nil))))))
    (pss_one (ps_ret (pe_callTy call_tuple_of (by rfl) G.tuple b_tuple (pa_cons
      (pe_lc (own := [("pair", 6)]) (g := gName 6) (tt := tYes) rfl scLCl.nd (pi_list (pe_callB cr_sortP (by rfl) G.sorted b_sorted (pa_cons (pv 3) pa_nil)))
        (blkOk_by (N := ["state", "names", "left", "got", "k", "name", "pair"]) (sc := defScope sLCl) (by decide +kernel))
        (fun _ _ _ _ _ => pg_name (i := 6) scLCl.nd rfl (Or.inl rfl) (Or.inr rfl)) (fun _ _ _ _ _ => pts_nil)
        (fun _ _ _ _ _ => pe_ix (ixt K) (pv 6) pe_int (fun _ _ => rfl))) pa_nil))))), ?_⟩
  refine ⟨_, rfl, _, _, rfl, rfl, _, _, rfl, rfl, RgOk.of_le (by omega) (by omega) (by omega) (by omega), fun lf hlf => ⟨(by show 0 ≤ sizeLine; decide), fun g hg => ?_⟩⟩
  rw [rgV_oneTo] at hg ⊢
  have s1 := same_new (.lst ((oneTo n).map V.int)) hlf
  have s2 := same_new (.lst []) hg
  have hne : lf ≠ g := ne_of_none (upd_same (H := H)) hg
  have f1 : (upd (upd H lf (.lst ((oneTo n).map V.int))) g (.lst [])) lf = some (.lst ((oneTo n).map V.int)) := s2 _ _ upd_same
  have g1 : (upd (upd H lf (.lst ((oneTo n).map V.int))) g (.lst [])) g = some (.lst []) := upd_same
  have hg0 := s1.free hg
  have s12 := s1.trans s2
  have hS1 := hS.same s12
  generalize upd (upd H lf (.lst ((oneTo n).map V.int))) g (.lst []) = H1 at s12 f1 g1 hS1
  have apf := hS.apart hlf
  have apg := hS.apart hg0
  refine ⟨_, _, rfl, ?_⟩
  have hmin : ∃ mn : Int, mn = (if n < 4 then n else 4) ∧ 1 ≤ mn ∧ mn ≤ n ∧ mn ≤ 4 := ⟨_, rfl, by split <;> omega, by split <;> omega, by split <;> omega⟩
  obtain ⟨mn, emn, m1, m2, m3⟩ := hmin
  refine ⟨_, rfl, _, rfl, 4, n, rfl, st, l, c, N, mn, by rw [emn]; rfl, hS1, by omega, by omega, by omega, fun H2 v b2 i2 v0 v1 => ?_⟩
  refine ⟨_, _, rfl, rfl, 1 + v, rfl, by omega, by omega, ?_⟩
  have k2 := hS1.keeps b2 f1 apf.st apf.l
  have g2 := hS1.keeps b2 g1 apg.st apg.l
  refine for_y (y_rng (lo := 0) (n := (1 + v).toNat)) (fun done σ H3 => But [st, l, lf, g] H1 H3 ∧ StI H3 st l c (N + 1 + 2 * done.length) ∧ (∃ fr : List Int, H3 lf = some (.lst (fr.map V.int)) ∧ (fr.length : Int) + done.length = n ∧ fr.Nodup ∧ (∀ x ∈ fr, 1 ≤ x ∧ x ≤ n) ∧
      ∃ acc ps, H3 g = some (.lst acc) ∧ PairsAt H3 acc ps ∧ ps.length = done.length ∧ (∀ p ∈ ps, ((1 ≤ p.1 ∧ p.1 ≤ n) ∧ ab p.2 = p.1) ∧ p.1 ∉ fr) ∧ (ps.map (·.1)).Nodup) ∧ ∃ u w, σ = [some (V.ref st), some (V.int n), some (V.ref lf), some (V.ref g), u, w, none])
    ⟨b2.mono (by simp), i2, ⟨oneTo n, k2, by rw [oneTo_len]; simp only [List.length_nil]; omega, ?_, fun x hx => mem_oneTo.mp hx, [], [], g2, .nil, rfl, fun p hp => (nomatch hp), List.nodup_nil⟩, none, none, rfl⟩ (fun _ _ _ _ _ _ => True.intro) (fun done a rest x σ H3 H4 e p s hx => ?_) fun σ H3 p => ?_
  · exact nodup_map List.nodup_range fun a _ b _ e => by omega
  · subst hx
    obtain ⟨p1, p2, ⟨fr, p3, p4, p5, p6, acc, ps, p7, p8, p9, p10, p11⟩, u, w, rfl⟩ := p
    have hlen : (1 + v).toNat = done.length + (rest.length + 1) := by
      have := congrArg List.length e
      rwa [List.length_range, List.length_append, List.length_cons] at this
    have hfr : 1 ≤ fr.length := by omega
    have s4 := p1.trans (But.of s)
    have i4 := p2.same s
    have lm : ((fr.map V.int).length : Nat) = fr.length := List.length_map _
    refine ⟨_, rfl, .inl ⟨rfl, _, SqL.of (s _ _ p3)⟩, _, rfl, _, rfl, lf, _, rfl, .inl (SqL.of (s _ _ p3)), st, l, c, _, (((fr.map V.int).length : Nat) : Int), rfl, i4, by omega, by omega, by omega, fun H5 j b5 i5 j0 j1 => ?_⟩
    have l5 := i4.keeps b5 (s _ _ p3) apf.st apf.l
    have g5 := i4.keeps b5 (s _ _ p7) apg.st apg.l
    have pa5 := PairsAt.ext ((Ext.of s).trans (i4.ext b5)) p8
    have s5 := s4.trans (b5.mono (B' := [st, l, lf, g]) (by simp))
    have hj : j.toNat < fr.length := by omega
    have hjx : fr[j.toNat]? = some fr[j.toNat] := List.getElem?_eq_getElem hj
    obtain ⟨t1, t2, t3, t4, t5, t6⟩ := take_out hjx p5
    generalize hxx : fr[j.toNat] = y at hjx t2 t5
    refine ⟨lf, _, j, j.toNat, .int y, rfl, rfl, l5, by omega, by omega, ?_, by rw [List.getElem?_map, hjx]; rfl, ?_⟩
    · exact seq_at j0 j1
    rw [t6]
    have s6 : But [st, l, lf, g] H1 (upd H5 lf (.lst ((fr.eraseIdx j.toNat).map V.int))) := but_upd s5 (by simp)
    have e6 : Ext H5 (upd H5 lf (.lst ((fr.eraseIdx j.toNat).map V.int))) := Ext.upd (mutL l5)
    have l6 : (upd H5 lf (.lst ((fr.eraseIdx j.toNat).map V.int))) lf = some (.lst ((fr.eraseIdx j.toNat).map V.int)) := upd_same
    have g6 : (upd H5 lf (.lst ((fr.eraseIdx j.toNat).map V.int))) g = some (.lst acc) := by rw [upd_ne hne.symm]; exact g5
    have i6 := i5.upd (o := .lst ((fr.eraseIdx j.toNat).map V.int)) apf
    have pa6 := PairsAt.ext e6 pa5
    generalize upd H5 lf (.lst ((fr.eraseIdx j.toNat).map V.int)) = H6 at s6 l6 g6 i6 pa6
    have hy := p6 y t5
    refine ⟨_, rfl, .inl ⟨rfl, _, SqL.of g6⟩, _, rfl, _, rfl, 1, rfl, (by show 2 ≤ sizeLine; decide), fun q0 hq0 => ?_⟩
    have s7 := same_new (.lst [V.int 1, V.int (-1)]) hq0
    have e7 : (upd H6 q0 (.lst [V.int 1, V.int (-1)])) q0 = some (.lst [V.int 1, V.int (-1)]) := upd_same
    have a0 := i6.apart hq0
    have i7 := i6.same s7
    have l7 := s7 _ _ l6
    have g7 := s7 _ _ g6
    have pa7 := PairsAt.same s7 pa6
    have b7 := s6.trans (But.of s7)
    generalize upd H6 q0 (.lst [V.int 1, V.int (-1)]) = H7 at e7 i7 l7 g7 pa7 b7
    refine ⟨_, rfl, st, l, c, _, 2, rfl, i7, by omega, by omega, by omega, fun H8 z b8 i8 z0 z1 => ?_⟩
    have l8 := i7.keeps b8 l7 apf.st apf.l
    have g8 := i7.keeps b8 g7 apg.st apg.l
    have e8 := i7.keeps b8 e7 a0.st a0.l
    have pa8 := PairsAt.ext (i7.ext b8) pa7
    have s8 := b7.trans (b8.mono (B' := [st, l, lf, g]) (by simp))
    obtain ⟨sg, hsg, hab⟩ : ∃ sg : Int, atI [V.int 1, V.int (-1)] z = some (.int sg) ∧ ab (y * sg) = y := by
      have : z = 0 ∨ z = 1 := by omega
      rcases this with e | e
      · exact ⟨1, at_of (j := 0) (by omega) rfl, by rw [Int.mul_one]; exact ab_pos (by omega)⟩
      · exact ⟨-1, at_of (j := 1) (by omega) rfl, by rw [show y * -1 = 0 - y by omega]; exact ab_neg (by omega)⟩
    refine ⟨q0, _, z, _, rfl, rfl, SqL.of e8, hsg, _, _, rfl, rfl, .inl ⟨by omega, by omega⟩, (by show 2 ≤ sizeLine; decide), fun T hT => ?_⟩
    have s9 := same_new (.tup [V.int y, V.int (y * sg)]) hT
    have g9 := s9 _ _ g8
    have e9 : (upd H8 T (.tup [V.int y, V.int (y * sg)])) T = some (.tup [V.int y, V.int (y * sg)]) := upd_same
    have i9 := i8.same s9
    have l9 := s9 _ _ l8
    have pa9 := PairsAt.same s9 pa8
    have b9 := s8.trans (But.of s9)
    generalize upd H8 T (.tup [V.int y, V.int (y * sg)]) = H9 at g9 e9 i9 l9 pa9 b9
    have la : acc.length = done.length := by rw [← p9]; exact Paired.length pa9
    refine ⟨g, _, _, rfl, rfl, g9, small1000 (by omega), ?_⟩
    have ex : Ext H9 (upd H9 g (.lst (acc ++ [V.ref T]))) := Ext.upd (mutL g9)
    refine ⟨but_upd b9 (by simp), (i9.upd apg).mono (by rw [List.length_append, List.length_singleton]; omega), ⟨fr.eraseIdx j.toNat, by rw [upd_ne hne]; exact l9, by rw [List.length_append, List.length_singleton]; omega, t1, fun x hx => p6 x (t3 x hx), acc ++ [V.ref T], ps ++ [(y, y * sg)], upd_same, pairs_snoc (PairsAt.ext ex pa9) ⟨T, rfl, ex _ _ e9 fun z => z⟩, by rw [List.length_append, List.length_append, p9]; rfl, fun p hp => ?_, ?_⟩, _, _, rfl⟩
    · rcases List.mem_append.mp hp with hp | hp
      · exact ⟨(p10 p hp).1, fun z => (p10 p hp).2 (t3 _ z)⟩
      · rw [List.mem_singleton.mp hp]
        exact ⟨⟨hy, hab⟩, t2⟩
    · rw [List.map_append]
      refine nd_snoc p11 fun z => ?_
      obtain ⟨p, hp, ep⟩ := List.mem_map.mp z
      exact (p10 p hp).2 (by rw [ep]; exact t5)
  · obtain ⟨p1, p2, ⟨fr, p3, p4, p5, p6, acc, ps, p7, p8, p9, p10, p11⟩, u, w, rfl⟩ := p
    rw [List.length_range] at p2 p4 p9
    refine ⟨_, rfl, g, acc, ps, rfl, SqL.of p7, p8, fun ys r qs hp hs hy hr => ?_⟩
    have s4 := same_new (.lst ys) hr
    have lq : qs.length ≤ 1000 := by rw [hp.length_eq]; omega
    refine ⟨r, rfl, ⟨_, SqL.of upd_same⟩, fun D2 hD2 => ?_⟩
    refine lc_map ((y_list (K := K) (a := r) (xs := ys)).paired (R := PairAt) (bs := qs) fun H H' v b s ⟨t, e, r⟩ => ⟨t, e, s _ _ r⟩) hD2 (fun H4 s5 => ⟨s5.seq (SqL.of upd_same), PairsAt.same (s4.trans s5) hy⟩) (fun r => .int r.2) lq (fun r x H4 hm s5 hx R R' hR => ?_) fun H4 s5 e5 => ?_
    · obtain ⟨t, rfl, ht⟩ := hx
      exact ⟨rfl, yes ⟨_, rfl, t, _, _, _, rfl, rfl, SqT.of ht, atI_nat (xs := [V.int r.1, V.int r.2]) (j := 1) rfl, hR H4 (Same.refl _)⟩⟩
    · refine ⟨D2, _, rfl, .inl ⟨SqL.of e5, fun t ht => ?_⟩⟩
      have s6 := same_new (.tup (qs.map fun r => V.int r.2)) ht
      have s46 := (s4.trans s5).trans s6
      refine q _ t (qs.map (·.2)) (fun b o hb eb => ?_) ((p2.same s46).mono (by omega)) (goodC_of (fun p hp => (p10 p hp).1) p11 hp hs) ?_ (by rw [upd_same, List.map_map]; rfl)
      · have n1 : b ≠ lf := ne_of_none eb hlf
        have n2 : b ≠ g := ne_of_none eb hg0
        simp only [List.mem_cons, List.not_mem_nil, or_false, not_or] at hb
        exact s46 _ _ (p1 b o (by simp [n1, n2, hb.1, hb.2]) (s12 _ _ eb))
      · cases eH : H t with
        | none => rfl
        | some o =>
          exfalso
          have n1 : t ≠ lf := ne_of_none eH hlf
          have n2 : t ≠ g := ne_of_none eH hg0
          by_cases n3 : t = st
          · obtain ⟨⟨_, e1⟩, _⟩ := p2.has
            rw [← n3] at e1
            exact ne_of_none ((s4.trans s5) _ _ e1) ht rfl
          by_cases n4 : t = l
          · obtain ⟨_, ⟨_, e1⟩, _⟩ := p2.has
            rw [← n4] at e1
            exact ne_of_none ((s4.trans s5) _ _ e1) ht rfl
          exact ne_of_none ((s4.trans s5) _ _ (p1 t o (by simp [n1, n2, n3, n4]) (s12 _ _ eH))) ht rfl
end
end IdW
end
section
set_option maxRecDepth 100000
namespace IdW
open PySem PySem.Spec PyProof.Rows L2 IdR RZ Idle
/-! ### a dict whose keys are good clauses -/
def kmap (c : List Int) : List Key := c.map Sum.inl
theorem kmap_kV (c : List Int) : (kmap c).map kV = c.map V.int := by unfold kmap; rw [List.map_map]; rfl
theorem kmap_inj : ∀ {a b : List Int}, kmap a = kmap b → a = b
  | [], [], _ => rfl
  | [], _ :: _, h => by cases h
  | _ :: _, [], h => by cases h
  | x :: a, y :: b, h => by
    have h : (Sum.inl x : Key) :: kmap a = Sum.inl y :: kmap b := h
    injection h with h1 h2
    injection h1 with h1
    rw [h1, kmap_inj h2]
def KnK (n : Int) (m : Nat) (kvs : List (List Key × V)) : Prop := ∃ Ks : List (List Int), kvs.map (·.1) = Ks.map kmap ∧ Ks.Nodup ∧ (∀ c ∈ Ks, GoodC n c) ∧ Ks.length ≤ m
theorem KnK.len {n : Int} {m : Nat} {kvs : List (List Key × V)} (h : KnK n m kvs) : kvs.length ≤ m := by
  obtain ⟨Ks, e, _, _, l⟩ := h
  have := congrArg List.length e
  rw [List.length_map, List.length_map] at this
  omega
theorem KnK.mono {n : Int} {m m' : Nat} {kvs : List (List Key × V)} (h : KnK n m kvs) (hm : m ≤ m') : KnK n m' kvs := let ⟨Ks, e, a, b, l⟩ := h; ⟨Ks, e, a, b, Nat.le_trans l hm⟩
theorem KnK.put {n : Int} {m : Nat} {kvs : List (List Key × V)} (h : KnK n m kvs) {c : List Int} (hc : GoodC n c) (v : V) : KnK n (m + 1) (putK kvs (kmap c) v) := by
  obtain ⟨Ks, e, a, b, l⟩ := h
  by_cases hm : c ∈ Ks
  · refine ⟨Ks, ?_, a, b, by omega⟩
    rw [put_keysK, e, if_pos (List.mem_map_of_mem hm)]
  · refine ⟨Ks ++ [c], ?_, ?_, fun d hd => ?_, by rw [List.length_append, List.length_singleton]; omega⟩
    · rw [put_keysK, e, if_neg (fun z => by
        obtain ⟨d, hd, ed⟩ := List.mem_map.mp z
        exact hm (by rw [← kmap_inj ed]; exact hd)), List.map_append]
      rfl
    · exact List.nodup_append.mpr ⟨a, List.nodup_cons.mpr ⟨by simp, List.nodup_nil⟩, fun x hx y hy z => hm (by rw [← List.mem_singleton.mp hy, ← z]; exact hx)⟩
    · rcases List.mem_append.mp hd with hd | hd
      · exact b d hd
      · rw [List.mem_singleton.mp hd]; exact hc
def TupAt (H : Hp) (x : V) (c : List Int) : Prop := ∃ a, x = .ref a ∧ H a = some (.tup (c.map V.int))
theorem TupAt.ext {H H' : Hp} {x : V} {c : List Int} (e : Ext H H') (h : TupAt H x c) : TupAt H' x c := let ⟨a, e1, q⟩ := h; ⟨a, e1, e _ _ q fun z => z⟩
theorem good0 (n : Int) : GoodC n [] := ⟨fun l hl => (by cases hl), List.Pairwise.nil⟩
theorem good1 {n x l : Int} (hx : 1 ≤ x ∧ x ≤ n) (hl : ab l = x) : GoodC n [l] := ⟨fun y hy => by rw [List.mem_singleton.mp hy, hl]; exact hx, List.pairwise_singleton _ _⟩
theorem good2 {n x y l r : Int} (hx : 1 ≤ x ∧ x ≤ n) (hy : 1 ≤ y ∧ y ≤ n) (hl : ab l = x) (hr : ab r = y) (h : x < y) : GoodC n [l, r] := by
  refine ⟨fun z hz => ?_, ?_⟩
  · rcases List.mem_cons.mp hz with e | hz
    · rw [e, hl]; exact hx
    · rw [List.mem_singleton.mp hz, hr]; exact hy
  · show [ab l, ab r].Pairwise (· < ·)
    rw [hl, hr]
    exact List.pairwise_cons.mpr ⟨fun z hz => by rw [List.mem_singleton.mp hz]; exact h, List.pairwise_singleton _ _⟩
theorem asc_lex {q r : List Int} (h : ¬ r < q) (hn : q ≠ r) : q < r := by
  rcases Decidable.em (q < r) with z | z
  · exact z
  · exact absurd (List.le_antisymm (List.not_lt.mp h) (List.not_lt.mp z)) hn
theorem asc_lists {M : List (List Int)} (h : M.Pairwise fun q r => ¬ r < q) (hn : M.Nodup) : M.Pairwise (· < ·) := (h.and hn).imp fun z => asc_lex z.1 z.2
theorem cut_take (xs : List V) (k : Nat) : cutV xs none (some (k : Int)) = xs.take k := by
  unfold cutV
  rw [HT.sIx_none, HT.sIx_nat, List.drop_zero, Nat.sub_zero]
  by_cases h : k ≤ xs.length
  · rw [Nat.min_eq_left h]
  · rw [Nat.min_eq_right (by omega), List.take_length, List.take_of_length_le (by omega)]
theorem cut16 (xs : List V) : cutV xs none (some 16) = xs.take 16 := cut_take xs 16
/-- the draws' state, and the dict at kn of at most m good clauses -/
def KI (st l c kn : Addr) (n : Int) (H1 H : Hp) (m N : Nat) : Prop := But [st, l, kn] H1 H ∧ StI H st l c N ∧ ∃ kvs, H kn = some (.dT kvs) ∧ KnK n m kvs
section
variable {st l c kn : Addr} {n : Int} {H1 H H' : Hp} {m m' N N' : Nat}
theorem KI.mono (h : KI st l c kn n H1 H m N) (hm : m ≤ m') (hN : N ≤ N') : KI st l c kn n H1 H m' N' := let ⟨a, b, kvs, e, k⟩ := h; ⟨a, b.mono hN, kvs, e, k.mono hm⟩
theorem KI.same (h : KI st l c kn n H1 H m N) (s : Same H H') : KI st l c kn n H1 H' m N := let ⟨a, b, kvs, e, k⟩ := h; ⟨a.trans (But.of s), b.same s, kvs, s _ _ e, k⟩
theorem KI.draw (h : KI st l c kn n H1 H m N) (ap : Apart st l c kn) (b : But [st, l] H H') (i : StI H' st l c N') : KI st l c kn n H1 H' m N' :=
  let ⟨a, b0, kvs, e, k⟩ := h
  ⟨a.trans (b.mono (by simp)), i, kvs, b0.keeps b e ap.st ap.l, k⟩
theorem KI.put (h : KI st l c kn n H1 H m N) (ap : Apart st l c kn) {r : List Int} (hc : GoodC n r) (hm : m ≤ 900) {q : Addr} (hq : H q = some (.tup (r.map V.int))) : ∃ H', DPut H kn (.ref q) (.bl true) H' ∧ KI st l c kn n H1 H' (m + 1) N ∧ Ext H H' := by
  obtain ⟨a, b, kvs, e, k⟩ := h
  have hl := k.len
  refine ⟨_, DPut.t (k := kmap r) e (by rw [kmap_kV]; exact hq) (small1000 (by omega)), ⟨but_upd a (by simp), b.upd ap, _, upd_same, k.put hc _⟩, Ext.upd fun o eo => ?_⟩
  rw [e] at eo
  cases eo
  exact True.intro
end
theorem rows_of {K : PySem.W.Frag} {H : Hp} : ∀ {M : List (Addr × List Int)}, (∀ q ∈ M, H q.1 = some (.tup (q.2.map V.int))) → RowsAt K H (M.map fun q => V.ref q.1) (M.map (·.2))
  | [], _ => .nil
  | q :: M, h => .cons ⟨q.1, rfl, SqT.of (h q List.mem_cons_self)⟩ (rows_of fun r hr => h r (List.mem_cons_of_mem _ hr))
section
variable {P : Program} {w : World} {K : PySem.W.Frag} {mg : Str → Option Value} {base : Heap}
abbrev sLB : Stmt := top 41
abbrev nLB : List Str := ["state", "most", "many", "names", "known", "k", "one", "other", "low", "high", "row"]
theorem scLB : FnScope nLB ["state", "most", "many"] (defScope sLB) := ⟨rfl, rfl, rfl, by decide +kernel, rfl, by decide +kernel, by decide +kernel⟩
def spLB (K : PySem.W.Frag) : Sp := fun vs H Q _ => ∃ (st l c : Addr) (N : Nat) (most many : Int), vs = [.ref st, .int most, .int many] ∧ StI H st l c N ∧ N ≤ 80000 ∧ 1 ≤ most ∧ most ≤ 5 ∧ 0 ≤ many ∧ many ≤ 7 ∧
  ∀ H' b n cs, But [st, l] H H' → StI H' st l c (N + 300) → Bun K H' b n cs → GoodB n cs → n ≤ 5 → Q (.ref b) H'
theorem ok_lb (G : Glo mg) (cD : Cal P w K mg base 2 "_law_draw" spDraw) (cC : Cal P w K mg base 3 "_law_clause" spLCl) (D : Def K mg "_law_bundle" sLB ["state", "most", "many"]) : Cal P w K mg base 4 "_law_bundle" (spLB K) := by
  refine cal D scLB (fun vs H Q E h => ?_) (fun f cdv A outer s H vs Q E hr h => ?_)
  · obtain ⟨st, l, c, N, most, many, rfl, _⟩ := h
    rfl
  obtain ⟨st, l, c, N, most, many, rfl, hS, hN, m1, m5, k0, k7, q⟩ := h
  have hu := hu_of hr
  refine ⟨_, pss_cons (ps_par (i := 3) (j := 4) rfl scLB.nd rfl rfl (by decide) rfl rfl (pa_cons (pe_op op_add pe_int (pe_c cD hr (pa_cons (pv 0) (pa_cons (pv 1) pa_nil)))) (pa_cons pe_dnewT pa_nil)) (by rfl))
    (pss_cons (ps_for PassesOwn.never rfl (pi_range1 (by rfl) G.range (pa_cons (pe_c cD hr (pa_cons (pv 0) (pa_cons (pe_op op_add (pv 2) pe_int) pa_nil))) pa_nil)) (pg_name (i := 5) scLB.nd rfl (.inl rfl))
      (pss_one (ps_dput hu (pv 4) (pe_c cC hr (pa_cons (pv 0) (pa_cons (pv 3) pa_nil))) pe_bl rfl)))
    (pss_cons (ps_if (pt_cmpR op_eq (pe_c cD hr (pa_cons (pv 0) (pa_cons pe_int pa_nil))) pe_int (nomark _)) (pss_one (ps_dput hu (pv 4) (pe_tup pa_nil) pe_bl rfl)) pss_nil)
    (pss_cons (ps_for PassesOwn.never rfl (pi_range1 (by rfl) G.range (pa_cons (pe_c cD hr (pa_cons (pv 0) (pa_cons pe_int pa_nil))) pa_nil)) (pg_name (i := 5) scLB.nd rfl (.inl rfl))
      (pss_cons (ps_par (i := 6) (j := 7) rfl scLB.nd rfl rfl (by decide) rfl rfl (pa_cons (pe_op op_add pe_int (pe_c cD hr (pa_cons (pv 0) (pa_cons (pv 3) pa_nil)))) (pa_cons (pe_op op_add pe_int (pe_c cD hr (pa_cons (pv 0) (pa_cons (pv 3) pa_nil)))) pa_nil)) (by rfl))
      (pss_one (ps_if (pt_cmpR op_eq (pv 6) (pv 7) (nomark _))
        (pss_cons (ps_dput hu (pv 4) (pe_tup (pa_cons (pv 6) pa_nil)) pe_bl rfl) (pss_one (ps_dput hu (pv 4) (pe_tup (pa_cons (pe_op op_sub pe_int (pv 6)) pa_nil)) pe_bl rfl)))
        (pss_cons (ps_par (i := 8) (j := 9) rfl scLB.nd rfl rfl (by decide) rfl rfl (pa_cons (pe_callB (call_min2 rfl) (by rfl) G.min b_min (pa_cons (pv 6) (pa_cons (pv 7) pa_nil))) (pa_cons (pe_callB (call_max2 rfl) (by rfl) G.max b_max (pa_cons (pv 6) (pa_cons (pv 7) pa_nil))) pa_nil)) (by rfl))
        (pss_one (ps_for PassesOwn.never rfl (pi_tup (pe_tup (pa_cons (pe_tup (pa_cons (pv 8) (pa_cons (pv 9) pa_nil))) (pa_cons (pe_tup (pa_cons (pv 8) (pa_cons (pe_op op_sub pe_int (pv 9)) pa_nil)))
            (pa_cons (pe_tup (pa_cons (pe_op op_sub pe_int (pv 8)) (pa_cons (pv 9) pa_nil))) (pa_cons (pe_tup (pa_cons (pe_op op_sub pe_int (pv 8)) (pa_cons (pe_op op_sub pe_int (pv 9)) pa_nil))) pa_nil)))))) (pg_name (i := 10) scLB.nd rfl (.inl rfl))
          (pss_one (ps_dput hu (pv 4) (pv 10) pe_bl rfl)))))))))
    (pss_one (ps_ret (pe_tup (pa_cons (pv 3) (pa_cons (pe_callTy call_tuple_of (by rfl) G.tuple b_tuple (pa_cons (pe_slice sl_list (pe_callB (cr_sortedDT rfl hr.units) (by rfl) G.sorted b_sorted (pa_cons (pv 4) pa_nil)) po_none (po_some pe_int)) pa_nil)) pa_nil)))))))), ?_⟩
  refine ⟨_, rfl, _, rfl, st, l, c, N, most, rfl, hS, by omega, by omega, by omega, fun H1 v b1 i1 v0 v1 => ⟨_, _, rfl, rfl, fun kn hkn => ⟨_, _, rfl, ?_⟩⟩⟩
  have ap := i1.apart hkn
  have s2 := same_new (.dT []) hkn
  obtain ⟨n, hn⟩ : ∃ n : Int, n = 1 + v := ⟨_, rfl⟩
  have two2 : 2 ≤ sizeLine := by decide
  have n1 : 1 ≤ n := by omega
  have n5 : n ≤ 5 := by omega
  have ki0 : KI st l c kn n (upd H1 kn (.dT [])) (upd H1 kn (.dT [])) 0 (N + 1) := ⟨But.refl _, i1.upd ap, [], upd_same, [], rfl, List.nodup_nil, fun _ h => (nomatch h), Nat.le_refl _⟩
  generalize hH2 : upd H1 kn (.dT []) = H2 at ki0 s2
  refine ⟨_, rfl, _, rfl, _, _, rfl, rfl, st, l, c, _, many + 1, rfl, ki0.2.1, by omega, by omega, by omega, fun H3 u b3 i3 u0 u1 => ⟨u, rfl, by omega, by omega, ?_⟩⟩
  have ki3 := ki0.draw ap b3 i3
  refine for_y (y_rng (lo := 0) (n := u.toNat)) (fun done σ H => KI st l c kn n H2 H done.length (N + 2 + 20 * done.length) ∧ ∃ u, σ = [some (V.ref st), some (V.int most), some (V.int many), some (V.int n), some (V.ref kn), u, none, none, none, none, none])
    ⟨ki3, none, by rw [hn]; rfl⟩ (fun _ _ _ _ _ _ => True.intro) (fun done a rest x σ H4 H5 e p s hx => ?_) fun σ H4 p => ?_
  · subst hx
    obtain ⟨p1, w, rfl⟩ := p
    have hlen : u.toNat = done.length + (rest.length + 1) := by
      have := congrArg List.length e
      rwa [List.length_range, List.length_append, List.length_cons] at this
    have p5 := p1.same s
    refine ⟨_, rfl, _, rfl, _, rfl, st, l, c, _, n, rfl, p5.2.1, by omega, n1, by omega, fun H6 t r b6 i6 gr _ ht => ?_⟩
    obtain ⟨H7, dp, k7, _⟩ := (p5.draw ap b6 i6).put ap gr (by omega) ht
    exact ⟨kn, H7, rfl, dp, k7.mono (by rw [List.length_append, List.length_singleton]; omega) (by rw [List.length_append, List.length_singleton]; omega), _, rfl⟩
  obtain ⟨p1, w, rfl⟩ := p
  rw [List.length_range] at p1
  refine ⟨_, rfl, st, l, c, _, 12, rfl, p1.2.1, by omega, by omega, by omega, fun H5 z b5 i5 z0 z1 => ⟨rfl, _, rfl, ite2 (fun _ => ?_) (fun _ => ?_)⟩⟩
  case' refine_1 =>
    refine ⟨_, rfl, (by show 0 ≤ sizeLine; decide), fun t ht => ?_⟩
    obtain ⟨H7, dp, k7, _⟩ := (((p1.draw ap b5 i5).same (same_new (.tup []) ht)).put ap (good0 n) (by omega) upd_same)
    refine ⟨kn, H7, rfl, dp, ?_⟩
    have k8 := k7.mono (m' := 8) (N' := N + 200) (by omega) (by omega)
  case' refine_2 =>
    have k8 := (p1.draw ap b5 i5).mono (m' := 8) (N' := N + 200) (by omega) (by omega)
    generalize H5 = H7 at k8
  all_goals
    clear b5 i5
    refine ⟨_, rfl, st, l, c, _, 3, rfl, k8.2.1, by omega, by omega, by omega, fun H9 u2 b9 i9 u20 u21 => ⟨u2, rfl, by omega, by omega, ?_⟩⟩
    have k9 := k8.draw ap b9 i9
    refine for_y (y_rng (lo := 0) (n := u2.toNat)) (fun done σ H => KI st l c kn n H2 H (8 + 4 * done.length) (N + 201 + 2 * done.length) ∧ ∃ u1 u2 u3 u4 u5 u6, σ = [some (V.ref st), some (V.int most), some (V.int many), some (V.int n), some (V.ref kn), u1, u2, u3, u4, u5, u6])
      ⟨k9, _, _, _, _, _, _, rfl⟩ (fun _ _ _ _ _ _ => True.intro) (fun done a rest x σ H4 H5 e p s hx => ?_) fun σ H4 p => ?_
    · subst hx
      obtain ⟨p1, w1, w2, w3, w4, w5, w6, rfl⟩ := p
      have hlen : u2.toNat = done.length + (rest.length + 1) := by
        have := congrArg List.length e
        rwa [List.length_range, List.length_append, List.length_cons] at this
      have p5 := p1.same s
      refine ⟨_, rfl, _, rfl, st, l, c, _, n, rfl, p5.2.1, by omega, by omega, by omega, fun Ha va ba ia a0 a1 => ⟨_, _, rfl, rfl, ?_⟩⟩
      have pa := p5.draw ap ba ia
      refine ⟨_, rfl, _, rfl, st, l, c, _, n, rfl, pa.2.1, by omega, by omega, by omega, fun Hb vb bb ib b0 b1 => ⟨_, _, rfl, rfl, _, _, rfl, ?_⟩⟩
      have pb := pa.draw ap bb ib
      refine ⟨_, rfl, _, rfl, rfl, _, rfl, ?_⟩
      show if decide (V.int (1 + va) = V.int (1 + vb)) = true then _ else _
      refine ite2 (fun hq => ?_) fun hq => ?_
      · refine ⟨_, rfl, _, rfl, (by show 1 ≤ sizeLine; decide), fun t ht => ?_⟩
        obtain ⟨H6, dp6, k6, _⟩ := (pb.same (same_new (.tup [V.int (1 + va)]) ht)).put ap (r := [1 + va]) (good1 (x := 1 + va) (by omega) (ab_pos (by omega))) (by omega) upd_same
        refine ⟨kn, H6, rfl, dp6, _, rfl, _, rfl, _, _, rfl, rfl, (by show 1 ≤ sizeLine; decide), fun t2 ht2 => ?_⟩
        obtain ⟨H7', dp7, k7', _⟩ := (k6.same (same_new (.tup [V.int (0 - (1 + va))]) ht2)).put ap (r := [0 - (1 + va)]) (good1 (x := 1 + va) (by omega) (ab_neg (by omega))) (by omega) upd_same
        exact ⟨kn, H7', rfl, dp7, k7'.mono (by rw [List.length_append, List.length_singleton]; omega) (by rw [List.length_append, List.length_singleton]; omega), _, _, _, _, _, _, rfl⟩
      · have hne : 1 + va ≠ 1 + vb := fun z => hq (decide_eq_true (by rw [z]))
        obtain ⟨lo, elo⟩ : ∃ lo : Int, lo = (if 1 + vb < 1 + va then 1 + vb else 1 + va) := ⟨_, rfl⟩
        obtain ⟨hi, ehi⟩ : ∃ hi : Int, hi = (if 1 + vb > 1 + va then 1 + vb else 1 + va) := ⟨_, rfl⟩
        have hlo : 1 ≤ lo ∧ lo ≤ n := by rw [elo]; split <;> omega
        have hhi : 1 ≤ hi ∧ hi ≤ n := by rw [ehi]; split <;> omega
        have hlt : lo < hi := by rw [elo, ehi]; split <;> split <;> omega
        refine ⟨_, rfl, _, rfl, _, _, rfl, _, rfl, _, rfl, _, _, rfl, _, _, rfl, ?_⟩
        have two : 2 ≤ sizeLine := by decide
        refine ⟨_, rfl, _, rfl, two, fun t1 h1 => ⟨_, rfl, _, rfl, _, _, rfl, rfl, two, fun t2 h2 => ⟨_, rfl, _, _, rfl, rfl, _, rfl, two, fun t3 h3 => ⟨_, rfl, _, _, rfl, rfl, _, rfl, _, _, rfl, rfl, two, fun t4 h4 => ⟨(by show 4 ≤ sizeLine; decide), fun T hT => ?_⟩⟩⟩⟩⟩
        have r1 : ∀ {H : Hp} {t : Addr}, (upd H t (.tup [V.int (if 1 + vb < 1 + va then 1 + vb else 1 + va), V.int (if 1 + vb > 1 + va then 1 + vb else 1 + va)])) t = some (.tup ([lo, hi].map V.int)) := fun {H t} => by rw [upd_same, elo, ehi]; rfl
        have r2 : ∀ {H : Hp} {t : Addr}, (upd H t (.tup [V.int (if 1 + vb < 1 + va then 1 + vb else 1 + va), V.int (0 - (if 1 + vb > 1 + va then 1 + vb else 1 + va))])) t = some (.tup ([lo, 0 - hi].map V.int)) := fun {H t} => by rw [upd_same, elo, ehi]; rfl
        have r3 : ∀ {H : Hp} {t : Addr}, (upd H t (.tup [V.int (0 - (if 1 + vb < 1 + va then 1 + vb else 1 + va)), V.int (if 1 + vb > 1 + va then 1 + vb else 1 + va)])) t = some (.tup ([0 - lo, hi].map V.int)) := fun {H t} => by rw [upd_same, elo, ehi]; rfl
        have r4 : ∀ {H : Hp} {t : Addr}, (upd H t (.tup [V.int (0 - (if 1 + vb < 1 + va then 1 + vb else 1 + va)), V.int (0 - (if 1 + vb > 1 + va then 1 + vb else 1 + va))])) t = some (.tup ([0 - lo, 0 - hi].map V.int)) := fun {H t} => by rw [upd_same, elo, ehi]; rfl
        have x1 := same_new (.tup [V.int (if 1 + vb < 1 + va then 1 + vb else 1 + va), V.int (if 1 + vb > 1 + va then 1 + vb else 1 + va)]) h1
        have x2 := same_new (.tup [V.int (if 1 + vb < 1 + va then 1 + vb else 1 + va), V.int (0 - (if 1 + vb > 1 + va then 1 + vb else 1 + va))]) h2
        have x3 := same_new (.tup [V.int (0 - (if 1 + vb < 1 + va then 1 + vb else 1 + va)), V.int (if 1 + vb > 1 + va then 1 + vb else 1 + va)]) h3
        have x4 := same_new (.tup [V.int (0 - (if 1 + vb < 1 + va then 1 + vb else 1 + va)), V.int (0 - (if 1 + vb > 1 + va then 1 + vb else 1 + va))]) h4
        have x5 := same_new (.tup [V.ref t1, V.ref t2, V.ref t3, V.ref t4]) hT
        have kT := pb.same ((((x1.trans x2).trans x3).trans x4).trans x5)
        refine ⟨T, rfl, ⟨_, SqT.of upd_same⟩, ?_⟩
        refine for_y ((y_tup (K := K) (a := T) (xs := [V.ref t1, V.ref t2, V.ref t3, V.ref t4])).paired (R := TupAt) (bs := [[lo, hi], [lo, 0 - hi], [0 - lo, hi], [0 - lo, 0 - hi]]) fun H H' v b s r => r.ext (Ext.of s))
          (fun d2 σ H => KI st l c kn n H2 H (8 + 4 * done.length + d2.length) (N + 201 + 2 * done.length + 2) ∧ (SqT K H T [V.ref t1, V.ref t2, V.ref t3, V.ref t4] ∧ Paired (TupAt H) [V.ref t1, V.ref t2, V.ref t3, V.ref t4] [[lo, hi], [lo, 0 - hi], [0 - lo, hi], [0 - lo, 0 - hi]]) ∧ ∃ u1 u2 u3 u4 u5 u6, σ = [some (V.ref st), some (V.int most), some (V.int many), some (V.int n), some (V.ref kn), u1, u2, u3, u4, u5, u6])
          ⟨kT, ⟨SqT.of upd_same, .cons ⟨t1, rfl, x5 _ _ (x4 _ _ (x3 _ _ (x2 _ _ r1)))⟩ (.cons ⟨t2, rfl, x5 _ _ (x4 _ _ (x3 _ _ r2))⟩ (.cons ⟨t3, rfl, x5 _ _ (x4 _ _ r3)⟩ (.cons ⟨t4, rfl, x5 _ _ r4⟩ .nil)))⟩, _, _, _, _, _, _, rfl⟩
          (fun _ _ σ H _ p => p.2.1) (fun d2 rw1 r2 x σ H6 H7 e6 p6 s6 hx => ?_) fun σ H6 p6 => ?_
        · obtain ⟨q1, ⟨q2, q3⟩, y1, y2, y3, y4, y5, y6, rfl⟩ := p6
          obtain ⟨tt, rfl, htt⟩ := hx
          have hg : GoodC n rw1 := by
            have : rw1 ∈ [[lo, hi], [lo, 0 - hi], [0 - lo, hi], [0 - lo, 0 - hi]] := by rw [e6]; simp
            have p1 := ab_pos (show 0 ≤ lo by omega)
            have p2 := ab_pos (show 0 ≤ hi by omega)
            have p3 := ab_neg (show 0 ≤ lo by omega)
            have p4 := ab_neg (show 0 ≤ hi by omega)
            simp only [List.mem_cons, List.not_mem_nil, or_false] at this
            rcases this with z | z | z | z <;> rw [z]
            · exact good2 hlo hhi p1 p2 hlt
            · exact good2 hlo hhi p1 p4 hlt
            · exact good2 hlo hhi p3 p2 hlt
            · exact good2 hlo hhi p3 p4 hlt
          have hd2 : d2.length ≤ 4 := by
            have := congrArg List.length e6
            rw [List.length_append, List.length_cons] at this
            simp only [List.length_cons, List.length_nil] at this
            omega
          obtain ⟨H8, dp8, k8', ex8⟩ := (q1.same s6).put ap hg (by omega) htt
          have ex := (Ext.of s6).trans ex8
          exact ⟨_, rfl, _, rfl, kn, H8, rfl, dp8, k8'.mono (by rw [List.length_append, List.length_singleton]; omega) (by omega), ⟨SqT.ext ex q2, L2.Paired.mapP q3 fun _ _ r => r.ext ex⟩, _, _, _, _, _, _, rfl⟩
        · obtain ⟨q1, _, y1, y2, y3, y4, y5, y6, rfl⟩ := p6
          exact ⟨q1.mono (by rw [List.length_append, List.length_singleton]; show _ + 4 ≤ _; omega) (by rw [List.length_append, List.length_singleton]; omega), _, _, _, _, _, _, rfl⟩
    · obtain ⟨p1, w1, w2, w3, w4, w5, w6, rfl⟩ := p
      rw [List.length_range] at p1
      obtain ⟨bb, ii, kvs, ek, Ks, eK, ndK, gK, lK⟩ := p1
      refine ⟨_, rfl, _, rfl, kn, kvs, Ks, rfl, .inl ek, eK, fun M p pm sr hM hp => ?_⟩
      have y1 := same_new (.lst (M.map fun q => V.ref q.1)) hp
      refine ⟨_, rfl, p, _, rfl, SqL.of upd_same, fun p2 hp2 => ?_⟩
      rw [cut16]
      have y2 := same_new (.lst ((M.map fun q => V.ref q.1).take 16)) hp2
      refine ⟨p2, _, rfl, .inl ⟨SqL.of upd_same, fun t ht => ⟨two2, fun b hb => ?_⟩⟩⟩
      have y3 := same_new (.tup ((M.map fun q => V.ref q.1).take 16)) ht
      have y4 := same_new (.tup [V.int n, V.ref t]) hb
      have y := ((y1.trans y2).trans y3).trans y4
      have sub : (M.take 16).map (·.2) = (M.map (·.2)).take 16 := List.map_take
      have mem : ∀ r ∈ (M.map (·.2)).take 16, GoodC n r := fun r hr => gK r (pm.mem_iff.mp (List.mem_of_mem_take hr))
      refine q _ b n ((M.map (·.2)).take 16) (fun x o hx ex => ?_) ((ii.same y).mono (by omega)) ⟨t, (M.map fun q => V.ref q.1).take 16, SqT.of upd_same, SqT.of (y4 _ _ upd_same), ?_⟩ ⟨n1, by omega, by rw [List.length_take]; omega, mem, ?_⟩ n5
      · simp only [List.mem_cons, List.not_mem_nil, or_false, not_or] at hx
        have e1 := b1 x o (by simp [hx.1, hx.2]) ex
        have n0 : x ≠ kn := ne_of_none e1 hkn
        exact y _ _ (bb x o (by simp [hx.1, hx.2, n0]) (s2 _ _ e1))
      · refine RowsAt.same y ?_
        have := rows_of (K := K) (H := H4) (M := M.take 16) fun q hq => hM q (List.mem_of_mem_take hq)
        rwa [List.map_take, List.map_take] at this
      · exact (asc_lists (List.pairwise_map.mpr sr) (pm.nodup_iff.mpr ndK)).sublist (List.take_sublist _ _)
end
end IdW
end
section
set_option maxRecDepth 100000
namespace IdW
open PySem PySem.Spec PyProof.Rows L2 IdR RZ Idle
/-! ### dicts with int keys, by their keys -/
def KeysI (kvs : List (Key × V)) (ks : List Int) : Prop := kvs.map (·.1) = ks.map Sum.inl ∧ ks.Nodup
theorem KeysI.len {kvs : List (Key × V)} {ks : List Int} (h : KeysI kvs ks) : kvs.length = ks.length := key_len h.1
theorem KeysI.put {kvs : List (Key × V)} {ks : List Int} (h : KeysI kvs ks) (x : Int) (v : V) : ∃ ks', KeysI (putK kvs (Sum.inl x) v) ks' ∧ ∀ y, y ∈ ks' ↔ y ∈ ks ∨ y = x := by
  by_cases hx : x ∈ ks
  · refine ⟨ks, ⟨?_, h.2⟩, fun y => ⟨.inl, fun z => z.elim id fun e => by rw [e]; exact hx⟩⟩
    rw [put_keysK, h.1, if_pos (inl_mem.mpr hx)]
  · exact ⟨ks ++ [x], ⟨key_put h.1 hx v, nd_snoc h.2 hx⟩, fun y => by rw [List.mem_append, List.mem_singleton]⟩
theorem KeysI.merge : ∀ {more : List (Key × V)} {kvs : List (Key × V)} {ks : List Int}, KeysI kvs ks → (∀ p ∈ more, ∃ x, p.1 = Sum.inl x) → ∃ ks', KeysI (mergeK kvs more) ks' ∧ ∀ y, y ∈ ks' ↔ y ∈ ks ∨ (Sum.inl y : Key) ∈ more.map (·.1)
  | [], kvs, ks, h, _ => ⟨ks, h, fun y => by simp⟩
  | p :: r, kvs, ks, h, hm => by
    obtain ⟨x, ex⟩ := hm p List.mem_cons_self
    obtain ⟨k1, h1, m1⟩ := h.put x p.2
    obtain ⟨k2, h2, m2⟩ := KeysI.merge (more := r) h1 fun q hq => hm q (List.mem_cons_of_mem _ hq)
    refine ⟨k2, ?_, fun y => ?_⟩
    · show KeysI (mergeK (putK kvs p.1 p.2) r) k2
      rw [ex]; exact h2
    · rw [m2, m1, List.map_cons, List.mem_cons, ex]
      constructor
      · rintro ((h | h) | h)
        · exact .inl h
        · exact .inr (.inl (by rw [h]))
        · exact .inr (.inr h)
      · rintro (h | h | h)
        · exact .inl (.inl h)
        · exact .inl (.inr (Sum.inl.inj h))
        · exact .inr h
/-- new pairs of a key and True, as a list of addresses -/
theorem pairs_refs {K : PySem.W.Frag} {H : Hp} {α : Type} {f : α → Int} {v : V} : ∀ {c : List α} {acc : List V}, Paired (fun l u => ∃ t, u = .ref t ∧ H t = some (.tup [.int (f l), v])) c acc →
    ∃ ps : List Addr, acc = ps.map V.ref ∧ Paired (fun p kv => SqT K H p [kV kv.1, kv.2]) ps (c.map fun l => ((Sum.inl (f l) : Key), v))
  | _, _, .nil => ⟨[], rfl, .nil⟩
  | _, _, .cons r t => by
    obtain ⟨p, e, q⟩ := r
    obtain ⟨ps, e2, q2⟩ := pairs_refs (K := K) t
    exact ⟨p :: ps, by rw [e, e2]; rfl, .cons (SqT.of q) q2⟩
theorem new_keeps {f : Int} {w : V} {u : V} {H H' : Hp} {D : Addr} {o : HO} (hD : H D = some o) (hn : ∀ xs, o ≠ .tup xs) (h : ∃ t, u = .ref t ∧ H t = some (.tup [.int f, w])) (k : ∀ b o, b ≠ D → H b = some o → H' b = some o) : ∃ t, u = .ref t ∧ H' t = some (.tup [.int f, w]) := by
  obtain ⟨t, e, q⟩ := h
  exact ⟨t, e, k _ _ (ne_of q hD fun z => hn _ z.symm) q⟩
section
variable {P : Program} {w : World} {K : PySem.W.Frag} {mg : Str → Option Value} {base : Heap}
abbrev sSpot : Stmt := top 42
theorem scSpot : FnScope ["thing", "many"] ["thing", "many"] (defScope sSpot) := ⟨rfl, rfl, rfl, by decide +kernel, rfl, by decide +kernel, by decide +kernel⟩
def spSpot : Sp := fun vs H Q _ => ∃ i m : Int, vs = [.int i, .int m] ∧ 0 ≤ i ∧ i < m ∧ Q (.bl true) H
theorem ok_spot (G : Glo mg) (D : Def K mg "_law_is_spot" sSpot ["thing", "many"]) : Cal P w K mg base 1 "_law_is_spot" spSpot := by
  refine cal D scSpot (fun vs H Q E h => ?_) (fun f cdv A outer s H vs Q E hr h => ?_)
  · obtain ⟨i, m, rfl, _⟩ := h
    rfl
  obtain ⟨i, m, rfl, h1, h2, q⟩ := h
  refine ⟨_, pss_one (ps_ret (pe_and (pe_callB call_isi (by rfl) G.isinstance b_isinstance (pa_cons (pv 0) (pa_cons (pe_bltn (v := .ty "int") (by rfl) G.int b_int rfl) pa_nil)))
    (pe_and (pe_not (pe_callB call_isi (by rfl) G.isinstance b_isinstance (pa_cons (pv 0) (pa_cons (pe_bltn (v := .ty "bool") (by rfl) G.bool b_bool rfl) pa_nil)))) (pe_one (pe_chain op_le op_lt pe_int (pv 0) (pv 1)))))), ?_⟩
  refine ⟨_, rfl, _, _, _, _, _, rfl, .ty "int", .base (.int i), k_int_int, _, rfl, iteT ?_⟩
  refine ⟨_, rfl, _, _, _, _, _, rfl, .ty "bool", .base (.int i), k_int_bool, _, rfl, _, rfl, iteT ?_⟩
  refine ⟨_, rfl, _, _, rfl, rfl, _, rfl, ?_⟩
  rw [decide_eq_true h1]
  refine iteT ⟨_, rfl, _, _, rfl, rfl, ?_⟩
  exact qbl h2 q
abbrev sNOf : Stmt := top 43
theorem scNOf : FnScope ["clauses", "known", "clause", "literal"] ["clauses"] (defScope sNOf) := ⟨rfl, rfl, rfl, by decide +kernel, rfl, by decide +kernel, by decide +kernel⟩
def spNOf (K : PySem.W.Frag) : Sp := fun vs H Q _ => ∃ (a : Addr) (xs : List V) (cs : List (List Int)), vs = [.ref a] ∧ SqL K H a xs ∧ RowsAt K H xs cs ∧ (∀ x, Named cs x → 1 ≤ x ∧ x ≤ 7) ∧ (∀ c ∈ cs, c.length ≤ 7) ∧
  ∀ H' p (ns : List Int), Same H H' → ns.Pairwise (· < ·) → (∀ x, x ∈ ns ↔ Named cs x) → H' p = some (.lst (ns.map V.int)) → Q (.ref p) H'
theorem same_put {H H' : Hp} {d : Addr} {o : HO} (s : Same H H') (hd : H d = none) : Same H (upd H' d o) := fun b u e => by rw [upd_ne (ne_of_none e hd)]; exact s b u e
theorem ok_nof (G : Glo mg) (D : Def K mg "_law_names_of" sNOf ["clauses"]) : Cal P w K mg base 1 "_law_names_of" (spNOf K) := by
  refine cal D scNOf (fun vs H Q E h => ?_) (fun f cdv A outer s H vs Q E hr h => ?_)
  · obtain ⟨a, xs, cs, rfl, _⟩ := h
    rfl
  obtain ⟨a, xs, cs, rfl, h1, h2, h7, hc7, q⟩ := h
  refine ⟨_, pss_cons (ps_set (i := 1) scNOf.nd rfl (.inl rfl) pe_dnewK)
    (pss_cons (ps_for PassesOwn.never rfl (pi_list (pv 0)) (pg_name (i := 2) scNOf.nd rfl (.inl rfl))
      (pss_one (ps_expr (pe_bm PySem.F.plainAttrs_dict PySem.F.slot_dict_update PySem.F.type_dict_update mt_updK (pv 1) (pa_cons (pe_callTy (call_dictP rfl) (by rfl) G.dict b_dict (pa_cons
        (pe_lc (own := [("literal", 3)]) (g := gName 3) (tt := tYes) rfl scNOf.nd (pi_tup (pv 2)) (blkOk_by (N := ["clauses", "known", "clause", "literal"]) (sc := defScope sNOf) (by decide +kernel))
          (fun _ _ _ _ _ => pg_name (i := 3) scNOf.nd rfl (Or.inl rfl) (Or.inr rfl)) (fun _ _ _ _ _ => pts_nil)
          (fun _ _ _ _ _ => pe_tup (pa_cons (pe_callB call_abs (by rfl) G.abs b_abs (pa_cons (pv 3) pa_nil)) (pa_cons pe_bl pa_nil)))) pa_nil)) pa_nil)))))
    (pss_one (ps_ret (pe_callB (call_sortedDI rfl) (by rfl) G.sorted b_sorted (pa_cons (pv 1) pa_nil))))), ?_⟩
  intro d hd
  have sev : ∀ (done : List (List Int)) (ks : List Int), (∃ rest, cs = done ++ rest) → ks.Nodup → (∀ x, x ∈ ks ↔ Named done x) → ks.length ≤ 7 := fun done ks ⟨rest, e⟩ hn hk =>
    rng7 hn fun x hx => h7 x (by
      obtain ⟨c, hc, r⟩ := (hk x).mp hx
      exact ⟨c, by rw [e]; exact List.mem_append_left _ hc, r⟩)
  refine ⟨_, rfl, a, rfl, ⟨_, (same_new _ hd).seq h1⟩, ?_⟩
  refine for_y ((y_list (K := K) (a := a) (xs := xs)).paired (R := RowAt K) (bs := cs) fun H H' v b s r => r.same s)
    (fun done σ H2 => Same H H2 ∧ (∃ kvs ks, H2 d = some (.dK kvs) ∧ KeysI kvs ks ∧ ∀ x, x ∈ ks ↔ Named done x) ∧ ∃ u, σ = [some (V.ref a), some (V.ref d), u, none])
    ⟨same_new _ hd, ⟨[], [], upd_same, ⟨rfl, List.nodup_nil⟩, fun x => ⟨fun z => (by cases z), fun z => by obtain ⟨_, z, _⟩ := z; cases z⟩⟩, none, rfl⟩
    (fun _ _ σ H2 _ p => ⟨p.1.seq h1, RowsAt.same p.1 h2⟩) (fun done c rest x σ H2 H3 e p s hx => ?_) fun σ H2 p => ?_
  · obtain ⟨ya, rfl, hy⟩ := hx
    obtain ⟨p1, ⟨kvs, ks, p2, p3, p4⟩, u, rfl⟩ := p
    have lk := sev done ks ⟨_, e⟩ p3.2 p4
    have lc := hc7 c (by rw [e]; simp)
    have p2' := s _ _ p2
    refine ⟨_, rfl, .inr (.inr (.inl ⟨rfl, .inl ⟨_, p2'⟩⟩)), _, rfl, ya, rfl, ⟨_, hy⟩, fun D hD => ?_⟩
    refine lc_rel (y_tup (K := K) (a := ya) (xs := c.map V.int)).map hD (fun H4 s4 => Same.tup s4 hy) (fun _ => true) (by omega) (fun l u H => ∃ t, u = .ref t ∧ H t = some (.tup [.int (ab l), .bl true])) (fun l v H H' acc e p k => new_keeps e (fun _ z => by cases z) p k) (fun l x H4 hm s4 hx R R' hR _ => ?_) fun H4 acc s4 e4 pr => ?_
    · subst hx
      refine ⟨rfl, yes ⟨_, rfl, l, rfl, by show 2 ≤ sizeLine; decide, fun T hT => ?_⟩⟩
      exact hR rfl _ _ ⟨T, rfl, upd_same⟩ (same_new _ hT)
    have ef : c.filter (fun _ => true) = c := List.filter_eq_self.mpr fun _ _ => rfl
    rw [ef] at pr
    obtain ⟨ps, eacc, pp⟩ := pairs_refs (K := K) (f := ab) (v := .bl true) pr
    subst eacc
    refine ⟨D, ps, _, rfl, SqL.of e4, pp, fun p hp => ?_⟩
    have s5 := same_new (.dK (mergeK [] (c.map fun l => ((Sum.inl (ab l) : Key), V.bl true)))) hp
    have d4 := s4 _ _ p2'
    have lm := length_mergeK (c.map fun l => ((Sum.inl (ab l) : Key), V.bl true)) []
    rw [List.length_map] at lm
    simp only [List.length_nil, Nat.zero_add] at lm
    obtain ⟨mk, hmk, mem⟩ := KeysI.merge (more := c.map fun l => ((Sum.inl (ab l) : Key), V.bl true)) (kvs := []) (ks := []) ⟨rfl, List.nodup_nil⟩ fun p hp => by
      obtain ⟨l, _, el⟩ := List.mem_map.mp hp
      exact ⟨_, by rw [← el]⟩
    obtain ⟨k2, hk2, mem2⟩ := p3.merge (more := mergeK [] (c.map fun l => ((Sum.inl (ab l) : Key), V.bl true))) fun p hp => by
      have : p.1 ∈ mk.map Sum.inl := by rw [← hmk.1]; exact List.mem_map_of_mem hp
      obtain ⟨x, _, ex⟩ := List.mem_map.mp this
      exact ⟨x, ex.symm⟩
    have lkv := p3.len
    refine ⟨d, p, kvs, _, rfl, rfl, s5 _ _ d4, upd_same, ne_of_none d4 hp, Nat.le_trans (show _ ≤ 14 by omega) (by decide), ?_⟩
    refine ⟨same_put (((p1.trans s).trans s4).trans s5) hd, ⟨_, k2, upd_same, hk2, fun x => ?_⟩, _, rfl⟩
    rw [mem2, p4, hmk.1, inl_mem, mem]
    constructor
    · rintro (⟨c', hc', r⟩ | z | z)
      · exact ⟨c', List.mem_append_left _ hc', r⟩
      · cases z
      · rw [List.map_map] at z
        obtain ⟨l, hl, el⟩ := List.mem_map.mp z
        exact ⟨c, by simp, l, hl, Sum.inl.inj el⟩
    · rintro ⟨c', hc', l, hl, el⟩
      rcases List.mem_append.mp hc' with hc' | hc'
      · exact .inl ⟨c', hc', l, hl, el⟩
      · rw [List.mem_singleton.mp hc'] at hl
        refine .inr (.inr ?_)
        rw [List.map_map]
        exact List.mem_map.mpr ⟨l, hl, by show (Sum.inl (ab l) : Key) = _; rw [el]⟩
  · obtain ⟨p1, ⟨kvs, ks, p2, p3, p4⟩, u, rfl⟩ := p
    have lk := sev cs ks ⟨[], by simp⟩ p3.2 p4
    refine ⟨_, rfl, d, kvs, ks, rfl, .inl p2, p3.1, by omega, fun ys p pm sr hp => ?_⟩
    exact q _ p ys (p1.trans (same_new _ hp)) (asc_of sr (pm.nodup_iff.mpr p3.2)) (fun x => by rw [pm.mem_iff, p4]) upd_same
abbrev sLMore : Stmt := top 44
theorem scLMore : FnScope ["bundle", "numbers", "number"] ["bundle", "numbers"] (defScope sLMore) := ⟨rfl, rfl, rfl, by decide +kernel, rfl, by decide +kernel, by decide +kernel⟩
theorem ok_lmore (G : Glo mg) (cO : Cal P w K mg base 1 "_law_names_of" (spNOf K)) (D : Def K mg "_law_more" sLMore ["bundle", "numbers"]) : Cal P w K mg base 2 "_law_more" (spMoreIn K) := by
  refine cal D scLMore (fun vs H Q E h => ?_) (fun f cdv A outer s H vs Q E hr h => ?_)
  · obtain ⟨b, t, n, cs, ns, rfl, _⟩ := h
    rfl
  obtain ⟨b, t, n, cs, ns, rfl, hB, hg, ht, hn, q⟩ := h
  refine ⟨_, pss_one (ps_ret (pe_op op_sub (pe_callB call_len_seq (by rfl) G.len b_len (pa_cons (pv 1) pa_nil)) (pe_callB call_len_seq (by rfl) G.len b_len (pa_cons (pe_c cO hr (pa_cons
      (pe_lc (own := [("number", 2)]) (g := gName 2) (tt := tYes) rfl scLMore.nd (pi_tup (pv 1)) (blkOk_by (N := ["bundle", "numbers", "number"]) (sc := defScope sLMore) (by decide +kernel))
          (fun _ _ _ _ _ => pg_name (i := 2) scLMore.nd rfl (Or.inl rfl) (Or.inr rfl)) (fun _ _ _ _ _ => pts_nil)
          (fun _ _ _ _ _ => pe_ix (ixt K) (pe_ix (ixt K) (pv 0) pe_int (fun _ _ => rfl)) (pv 2) (fun _ _ => rfl))) pa_nil)) pa_nil)))), ?_⟩
  have ln := hn.len hg
  refine ⟨_, rfl, t, _, rfl, .inr ht, _, rfl, t, rfl, ⟨_, ht⟩, fun D hD => ?_⟩
  refine lc_rel (y_tup (K := K) (a := t) (xs := ns.map V.int)).map hD (fun H2 s2 => Same.tup s2 ht) (fun _ => true) (by omega) (fun i v H => RowAt K H v (row cs i)) (fun i v H H' acc e p k => RowAt.keeps e True.intro p k) (fun i x H2 hm s2 hx R R' hR _ => ?_) fun H2 acc s2 e pr => ?_
  · subst hx
    obtain ⟨i0, i1⟩ := hn.num i hm
    obtain ⟨c, xs, ya, a1, a2, a3, a4, _⟩ := (hB.same s2).row i0 i1
    exact ⟨rfl, yes ⟨_, rfl, b, _, _, _, rfl, rfl, a1, atI_nat (xs := [V.int n, V.ref c]) (j := 1) rfl, _, rfl, c, xs, _, _, rfl, rfl, a2, a3, hR rfl _ H2 ⟨ya, rfl, a4⟩ (Same.refl _)⟩⟩
  · have ef : ns.filter (fun _ => true) = ns := List.filter_eq_self.mpr fun _ _ => rfl
    rw [ef] at pr
    have all : ∀ {ns : List Int} {acc : List V}, Paired (fun i v => RowAt K H2 v (row cs i)) ns acc → RowsAt K H2 acc (ns.map (row cs)) := by
      intro ns acc h
      induction h with
      | nil => exact .nil
      | cons r t ih => exact .cons r ih
    have inB : ∀ c ∈ ns.map (row cs), GoodC n c := fun c hc => by
      obtain ⟨i, hi, ei⟩ := List.mem_map.mp hc
      obtain ⟨i0, i1⟩ := hn.num i hi
      rw [← ei]
      exact hg.lit _ (row_mem i0 i1).2
    refine ⟨D, acc, ns.map (row cs), rfl, SqL.of e, all pr, fun x hx => ?_, fun c hc => (inB c hc).len hg.n7, fun H3 p nm s3 asc mem e3 => ?_⟩
    · obtain ⟨c, hc, l, hl, ex⟩ := hx
      have := (inB c hc).1 l hl
      have := hg.n7
      omega
    · refine ⟨p, _, rfl, .inl (SqL.of e3), _, _, rfl, rfl, ?_⟩
      have := q H3 nm (s2.trans s3) ⟨asc, mem⟩
      rw [List.length_map, List.length_map]
      exact this
end
end IdW
end
section
set_option maxRecDepth 100000
namespace IdW
open PySem PySem.Spec PyProof.Rows L2 IdR RZ Idle
/-! ### the 32 ascending lists of 1 .. 5; their hashes differ -/
def subs : List Int → List (List Int)
  | [] => [[]]
  | x :: xs => subs xs ++ (subs xs).map (x :: ·)
def hI (ns : List Int) : Int := reduceHash (Builtin.Tuple.tupleHashOf (ns.map hashInt))
theorem hash_kmap {P : Program} {w : World} (ns : List Int) : hashT P w (kmap ns) = hI ns := by
  show reduceHash (Builtin.Tuple.tupleHashOf ((kmap ns).map (keyH w))) = _
  unfold kmap hI
  rw [List.map_map]
  rfl
theorem hI_nd : ((subs [1, 2, 3, 4, 5]).map hI).Nodup := by decide +kernel
theorem inj_on {α β : Type} {f : α → β} : ∀ {xs : List α}, (xs.map f).Nodup → ∀ a ∈ xs, ∀ b ∈ xs, f a = f b → a = b
  | [], _, a, ha, _, _, _ => nomatch ha
  | x :: xs, h, a, ha, b, hb, e => by
    obtain ⟨h1, h2⟩ := List.nodup_cons.mp h
    rcases List.mem_cons.mp ha with ea | ha
    · rcases List.mem_cons.mp hb with eb | hb
      · rw [ea, eb]
      · exact absurd (by rw [← ea, e]; exact List.mem_map_of_mem hb) h1
    · rcases List.mem_cons.mp hb with eb | hb
      · exact absurd (by rw [← eb, ← e]; exact List.mem_map_of_mem ha) h1
      · exact inj_on h2 a ha b hb e
theorem mem_subs : ∀ {xs r : List Int}, xs.Pairwise (· < ·) → r.Pairwise (· < ·) → (∀ x ∈ r, x ∈ xs) → r ∈ subs xs
  | [], [], _, _, _ => by simp [subs]
  | [], x :: r, _, _, h => by have := h x List.mem_cons_self; cases this
  | y :: xs, [], h1, _, _ => List.mem_append_left _ (mem_subs (List.pairwise_cons.mp h1).2 List.Pairwise.nil fun x hx => (by cases hx))
  | y :: xs, x :: r, h1, h2, h => by
    obtain ⟨a1, a2⟩ := List.pairwise_cons.mp h1
    obtain ⟨b1, b2⟩ := List.pairwise_cons.mp h2
    have rest : ∀ z ∈ r, z ∈ xs := fun z hz => by
      rcases List.mem_cons.mp (h z (List.mem_cons_of_mem _ hz)) with e | q
      · have q1 := b1 z hz
        rcases List.mem_cons.mp (h x List.mem_cons_self) with e2 | q2
        · omega
        · have := a1 x q2
          omega
      · exact q
    rcases List.mem_cons.mp (h x List.mem_cons_self) with e | q
    · rw [e]
      exact List.mem_append_right _ (List.mem_map_of_mem (mem_subs a2 b2 rest))
    · refine List.mem_append_left _ (mem_subs a2 h2 fun z hz => ?_)
      rcases List.mem_cons.mp hz with e | hz
      · rw [e]; exact q
      · exact rest z hz
def In5 (r : List Int) : Prop := r.Pairwise (· < ·) ∧ ∀ x ∈ r, 1 ≤ x ∧ x ≤ 5
theorem In5.mem {r : List Int} (h : In5 r) : r ∈ subs [1, 2, 3, 4, 5] := mem_subs (by decide) h.1 fun x hx => by
  obtain ⟨a, b⟩ := h.2 x hx
  have : x = 1 ∨ x = 2 ∨ x = 3 ∨ x = 4 ∨ x = 5 := by omega
  rcases this with e | e | e | e | e <;> rw [e] <;> decide
theorem hash_nd {P : Program} {w : World} {kvs : List (List Key × V)} {R : List (List Int)} (e : kvs.map (·.1) = R.map kmap) (hn : R.Nodup) (h5 : ∀ r ∈ R, In5 r) : (kvs.map fun kv => hashT P w kv.1).Nodup := by
  have e2 : kvs.map (fun kv => hashT P w kv.1) = R.map hI := by
    have := congrArg (List.map (hashT P w)) e
    rw [List.map_map, List.map_map] at this
    rw [show (fun kv : List Key × V => hashT P w kv.1) = hashT P w ∘ (fun x => x.1) from rfl, this]
    exact List.map_congr_left fun r _ => hash_kmap r
  rw [e2]
  exact nodup_map hn fun a ha b hb q => inj_on hI_nd a (h5 a ha).mem b (h5 b hb).mem q
theorem in5_len {R : List (List Int)} (hn : R.Nodup) (h5 : ∀ r ∈ R, In5 r) : R.length ≤ 32 := len_le (ys := subs [1, 2, 3, 4, 5]) hn fun r hr => (h5 r hr).mem
/-! ### dicts with tuple keys, by their keys -/
def KeysT (kvs : List (List Key × V)) (R : List (List Int)) : Prop := kvs.map (·.1) = R.map kmap ∧ R.Nodup
theorem KeysT.len {kvs : List (List Key × V)} {R : List (List Int)} (h : KeysT kvs R) : kvs.length = R.length := by
  have := congrArg List.length h.1
  rwa [List.length_map, List.length_map] at this
theorem kmap_mem {r : List Int} {R : List (List Int)} : kmap r ∈ R.map kmap ↔ r ∈ R := ⟨fun z => by
  obtain ⟨b, hb, eb⟩ := List.mem_map.mp z
  rw [← kmap_inj eb]; exact hb, fun z => List.mem_map_of_mem z⟩
theorem KeysT.put {kvs : List (List Key × V)} {R : List (List Int)} (h : KeysT kvs R) (r : List Int) (v : V) : ∃ R', KeysT (putK kvs (kmap r) v) R' ∧ ∀ y, y ∈ R' ↔ y ∈ R ∨ y = r := by
  by_cases hr : r ∈ R
  · refine ⟨R, ⟨?_, h.2⟩, fun y => ⟨.inl, fun z => z.elim id fun e => by rw [e]; exact hr⟩⟩
    rw [put_keysK, h.1, if_pos (kmap_mem.mpr hr)]
  · refine ⟨R ++ [r], ⟨?_, ?_⟩, fun y => by rw [List.mem_append, List.mem_singleton]⟩
    · rw [put_keysK, h.1, if_neg (fun z => hr (kmap_mem.mp z)), List.map_append]
      rfl
    · exact List.nodup_append.mpr ⟨h.2, List.nodup_cons.mpr ⟨by simp, List.nodup_nil⟩, fun x hx y hy z => hr (by rw [← List.mem_singleton.mp hy, ← z]; exact hx)⟩
theorem KeysT.merge : ∀ {ms : List (List Int)} {more kvs : List (List Key × V)} {R : List (List Int)}, KeysT kvs R → more.map (·.1) = ms.map kmap → ∃ R', KeysT (mergeT kvs more) R' ∧ ∀ y, y ∈ R' ↔ y ∈ R ∨ y ∈ ms
  | [], [], kvs, R, h, _ => ⟨R, h, fun y => by simp⟩
  | [], _ :: _, _, _, _, e => by cases e
  | _ :: _, [], _, _, _, e => by cases e
  | r :: ms, p :: more, kvs, R, h, e => by
    rw [List.map_cons, List.map_cons] at e
    injection e with e1 e2
    obtain ⟨R1, h1, m1⟩ := h.put r p.2
    obtain ⟨R2, h2, m2⟩ := KeysT.merge (ms := ms) (more := more) h1 e2
    refine ⟨R2, ?_, fun y => ?_⟩
    · show KeysT (mergeT (putK kvs p.1 p.2) more) R2
      rw [e1]; exact h2
    · rw [m2, m1, List.mem_cons]
      constructor
      · rintro ((h | h) | h)
        · exact .inl h
        · exact .inr (.inl h)
        · exact .inr (.inr h)
      · rintro (h | h | h)
        · exact .inl (.inl h)
        · exact .inl (.inr h)
        · exact .inr h
/-! ### the rows: what some clauses can be paired with -/
structure RI (n : Int) (cs : List (List Int)) (B : Ties) (done : List Int) (R : List (List Int)) : Prop where
  asc : ∀ r ∈ R, r.Pairwise (· < ·) ∧ ∀ x ∈ r, 1 ≤ x ∧ x ≤ n
  pair : ∀ r ∈ R, ∃ M : List (Int × Int), (M.map (·.1)).Nodup ∧ (∀ p ∈ M, p.1 ∈ done ∧ p.2 ∈ LL n cs p.1) ∧ r.Perm (M.map (·.2))
  tie : ∃ r ∈ R, r.Perm ((B.filter fun p => decide (p.2 ∈ done)).map (·.1))
/-- while the rows of R are gone through for the clause c: those gone through are d2 -/
structure RJ (n : Int) (cs : List (List Int)) (done : List Int) (c : Int) (R d2 R2 : List (List Int)) : Prop where
  sub : ∀ r ∈ R, r ∈ R2
  of : ∀ r' ∈ R2, r' ∈ R ∨ (r'.Pairwise (· < ·) ∧ ∃ r ∈ R, ∃ x ∈ LL n cs c, x ∉ r ∧ r'.Perm (r ++ [x]))
  all : ∀ r ∈ d2, ∀ x ∈ LL n cs c, x ∉ r → ∃ r' ∈ R2, r'.Perm (r ++ [x])
theorem filter_or {α : Type} {a b : α → Bool} : ∀ {l : List α}, (∀ p ∈ l, ¬ (a p = true ∧ b p = true)) → (l.filter fun p => a p || b p).Perm (l.filter a ++ l.filter b)
  | [], _ => List.Perm.nil
  | x :: l, h => by
    have ih := filter_or (l := l) fun p hp => h p (List.mem_cons_of_mem _ hp)
    have hx := h x List.mem_cons_self
    rw [List.filter_cons, List.filter_cons, List.filter_cons]
    cases ha : a x with
    | true =>
      have hb : b x = false := by
        cases hb : b x with
        | false => rfl
        | true => exact absurd ⟨ha, hb⟩ hx
      rw [hb]
      simp only [Bool.true_or, if_true]
      rw [if_neg Bool.false_ne_true]
      exact ih.cons x
    | false =>
      cases hb : b x with
      | true =>
        simp only [Bool.false_or, if_true]
        rw [if_neg Bool.false_ne_true]
        exact (ih.cons x).trans List.perm_middle.symm
      | false =>
        simp only [Bool.or_self]
        rw [if_neg Bool.false_ne_true, if_neg Bool.false_ne_true]
        exact ih
theorem RI.start (n : Int) (cs : List (List Int)) (B : Ties) : RI n cs B [] [[]] := by
  refine ⟨fun r hr => ?_, fun r hr => ?_, [], by simp, ?_⟩
  · rw [List.mem_singleton.mp hr]
    exact ⟨List.Pairwise.nil, fun x hx => (by cases hx)⟩
  · rw [List.mem_singleton.mp hr]
    exact ⟨[], List.nodup_nil, fun p hp => (by cases hp), List.Perm.nil⟩
  · have : B.filter (fun p => decide (p.2 ∈ ([] : List Int))) = [] := List.filter_eq_nil_iff.mpr fun p _ => by simp
    rw [this]
    exact List.Perm.nil
theorem RJ.start (n : Int) (cs : List (List Int)) (done : List Int) (c : Int) (R : List (List Int)) : RJ n cs done c R [] R := ⟨fun _ h => h, fun _ h => .inl h, fun _ h => (by cases h)⟩
theorem RJ.asc {n : Int} {cs : List (List Int)} {B : Ties} {done : List Int} {c : Int} {R d2 R2 : List (List Int)} (h : RI n cs B done R) (j : RJ n cs done c R d2 R2) : ∀ r ∈ R2, r.Pairwise (· < ·) ∧ ∀ x ∈ r, 1 ≤ x ∧ x ≤ n := fun r' hr' => by
  rcases j.of r' hr' with hr | ⟨a, r, hr, x, hx, _, pm⟩
  · exact h.asc r' hr
  · refine ⟨a, fun y hy => ?_⟩
    rcases List.mem_append.mp (pm.mem_iff.mp hy) with hy | hy
    · exact (h.asc r hr).2 y hy
    · rw [List.mem_singleton.mp hy]; exact (mem_LL.mp hx).1
theorem RJ.next {n : Int} {cs : List (List Int)} {L : Int → List Int} {B : Ties} {done all : List Int} {c : Int} {R R2 : List (List Int)} (K : TiesOk (LL n cs) all B) (hc : c ∉ done) (h : RI n cs B done R) (j : RJ n cs done c R R R2) : RI n cs B (done ++ [c]) R2 := by
  refine ⟨j.asc h, fun r' hr' => ?_, ?_⟩
  · rcases j.of r' hr' with hr | ⟨_, r, hr, x, hx, _, pm⟩
    · obtain ⟨M, m1, m2, m3⟩ := h.pair r' hr
      exact ⟨M, m1, fun p hp => ⟨List.mem_append_left _ (m2 p hp).1, (m2 p hp).2⟩, m3⟩
    · obtain ⟨M, m1, m2, m3⟩ := h.pair r hr
      refine ⟨M ++ [(c, x)], ?_, fun p hp => ?_, ?_⟩
      · rw [List.map_append]
        exact nd_snoc m1 fun z => by
          obtain ⟨p, hp, ep⟩ := List.mem_map.mp z
          have ep : p.1 = c := ep
          exact hc (by rw [← ep]; exact (m2 p hp).1)
      · rcases List.mem_append.mp hp with hp | hp
        · exact ⟨List.mem_append_left _ (m2 p hp).1, (m2 p hp).2⟩
        · rw [List.mem_singleton.mp hp]
          exact ⟨by simp, hx⟩
      · rw [List.map_append]
        exact pm.trans (m3.append_right _)
  · obtain ⟨r, hr, pm⟩ := h.tie
    by_cases hB : c ∈ B.map (·.2)
    · obtain ⟨p, hp, ep⟩ := List.mem_map.mp hB
      obtain ⟨x, c'⟩ := p
      have ep : c' = c := ep
      subst ep
      have hx : x ∈ LL n cs c' := K.valid _ hp
      have hxr : x ∉ r := fun z => by
        obtain ⟨q, hq, eq⟩ := List.mem_map.mp (pm.mem_iff.mp z)
        obtain ⟨q1, q2⟩ := List.mem_filter.mp hq
        have : q = (x, c') := inj_on K.nd q q1 _ hp eq
        rw [this] at q2
        exact hc (of_decide_eq_true q2)
      obtain ⟨r', hr', pm'⟩ := j.all r hr x hx hxr
      refine ⟨r', hr', pm'.trans ?_⟩
      have e1 : (fun p : Int × Int => decide (p.2 ∈ done ++ [c'])) = fun p => decide (p.2 ∈ done) || decide (p.2 = c') := by
        funext p
        rw [Bool.eq_iff_iff, Bool.or_eq_true, decide_eq_true_eq, decide_eq_true_eq, decide_eq_true_eq, List.mem_append, List.mem_singleton]
      rw [e1]
      have f1 := filter_or (a := fun p : Int × Int => decide (p.2 ∈ done)) (b := fun p => decide (p.2 = c')) (l := B) fun p _ z => hc (by rw [← of_decide_eq_true z.2]; exact of_decide_eq_true z.1)
      have f2 : (B.filter fun p => decide (p.2 = c')) = [(x, c')] := by
        have nd2 : (B.filter fun p => decide (p.2 = c')).Nodup := (nodup_of_map K.ndv).sublist List.filter_sublist
        have mem : ∀ q ∈ B.filter (fun p => decide (p.2 = c')), q = (x, c') := fun q hq => by
          obtain ⟨q1, q2⟩ := List.mem_filter.mp hq
          exact inj_on K.ndv q q1 _ hp (of_decide_eq_true q2)
        have inn : (x, c') ∈ B.filter (fun p => decide (p.2 = c')) := List.mem_filter.mpr ⟨hp, by simp⟩
        generalize B.filter (fun p => decide (p.2 = c')) = l at nd2 mem inn
        match l, nd2, mem, inn with
        | [a], _, mem, _ => rw [mem a List.mem_cons_self]
        | a :: b :: l, nd2, mem, _ =>
          have := mem a List.mem_cons_self
          have := mem b (by simp)
          exact absurd (by simp_all : a ∈ b :: l) (List.nodup_cons.mp nd2).1
      rw [f2] at f1
      have f3 := f1.map (·.1)
      rw [List.map_append] at f3
      exact (pm.append_right _).trans f3.symm
    · refine ⟨r, j.sub r hr, ?_⟩
      have : B.filter (fun p => decide (p.2 ∈ done ++ [c])) = B.filter (fun p => decide (p.2 ∈ done)) := by
        refine List.filter_congr fun p hp => ?_
        rw [Bool.eq_iff_iff, decide_eq_true_eq, decide_eq_true_eq, List.mem_append, List.mem_singleton]
        exact ⟨fun z => z.elim id fun e => absurd (by rw [← e]; exact List.mem_map_of_mem hp) hB, .inl⟩
      rw [this]
      exact pm
end IdW
end
section
set_option maxRecDepth 100000
namespace IdW
open PySem PySem.Spec PyProof.Rows L2 IdR RZ Idle
section
variable {X : Cx}
theorem cr_sortedTIK (K : PySem.W.Frag) (hu : X.A.units + 64 < cLine) (h : X.K = K := by rfl) : CallR X (.builtin "sorted") (rSortedTI K) := by
  subst h
  exact cr_sortedTI hu
def rTupOf (K : PySem.W.Frag) : List V → Hp → VK → Prop := fun xs H Q => ∃ p ys, xs = [.ref p] ∧ SqL K H p ys ∧ ∀ l, H l = none → Q (.ref l) (upd H l (.tup ys))
theorem call_tupK (K : PySem.W.Frag) (h : X.K = K := by rfl) : CallR X (.type "tuple") (rTupOf K) := by
  subst h
  intro pins s σ H xs us Q I r q
  obtain ⟨p, ys, e, hs, q⟩ := q
  exact call_tuple_of pins s σ H xs us Q I r ⟨p, ys, e, .inl ⟨hs, q⟩⟩
def rCatB (K : PySem.W.Frag) : R2 := fun x y H Q => ∃ a b xs ys, x = .ref a ∧ y = .ref b ∧ SqT K H a xs ∧ SqT K H b ys ∧ xs.length + ys.length ≤ sizeLine ∧ ∀ p H', Same H H' → SqT K H' p (xs ++ ys) → Q (.ref p) H'
theorem op_catK (K : PySem.W.Frag) (h : X.K = K := by rfl) : OpR X (binaryOp .Add) (rCatB K) := by
  subst h
  intro pins s σ H x y v u Q I rx ry q
  obtain ⟨a, b, xs, ys, ea, eb, ha, hb, hz, q⟩ := q
  refine op_catA pins s σ H x y v u Q I rx ry ⟨a, b, xs, ys, ea, eb, ha, hb, hz, fun e => ?_, fun _ e => ?_, fun _ _ p hp => ?_⟩
  · exact q b H (Same.refl H) (by rw [e]; exact hb)
  · exact q a H (Same.refl H) (by rw [e, List.append_nil]; exact ha)
  · exact q p _ (same_new _ hp) (SqT.of upd_same)
end
theorem y_rows {d : Addr} {o : Obj} {kvs : List (List Key × V)} {R : List (List Int)} (e : kvs.map (·.1) = R.map kmap) : Yields (Itkt d o kvs) (fun H => H d = some (.frz o (.dT kvs))) R (fun r x H => ∃ q, x = .ref q ∧ H q = some (.tup (r.map V.int))) := fun H h => by
  have hl : kvs.length = R.length := by
    have := congrArg List.length e
    rwa [List.length_map, List.length_map] at this
  obtain ⟨y1, y2, y3⟩ := y_keysT (d := d) (o := o) (kvs := kvs) H h
  rw [hl] at y1 y2 y3
  refine ⟨y1, y2, fun i x H' hi y => ?_⟩
  obtain ⟨s, p, e1, q, e2, e3⟩ := y3 i x H' hi y
  have hR : R[i]? = some R[i] := List.getElem?_eq_getElem hi
  have ek : p.1 = kmap R[i] := by
    have h1 : (kvs.map (·.1))[i]? = some p.1 := by rw [List.getElem?_map, e1]; rfl
    rw [e, List.getElem?_map, hR] at h1
    exact (Option.some.inj h1).symm
  exact ⟨s, R[i], hR, q, e2, by rw [e3, ek, kmap_kV]⟩
/-- new pairs of a new tuple and True -/
def RowP (r : List Int) (x : Int) (v : V) (H : Hp) : Prop := ∃ (t q : Addr) (ms : List Int), v = .ref t ∧ H t = some (.tup [.ref q, .bl true]) ∧ H q = some (.tup (ms.map V.int)) ∧ ms.Perm (r ++ [x]) ∧ ms.Pairwise (· < ·)
theorem RowP.keeps {r : List Int} {x : Int} {v : V} {H H' : Hp} {D : Addr} {acc : List V} (hD : H D = some (.lst acc)) (h : RowP r x v H) (k : ∀ b o, b ≠ D → H b = some o → H' b = some o) : RowP r x v H' := by
  obtain ⟨t, q, ms, e, h1, h2, r⟩ := h
  exact ⟨t, q, ms, e, k _ _ (ne_of h1 hD fun z => by cases z) h1, k _ _ (ne_of h2 hD fun z => by cases z) h2, r⟩
theorem rowP_all {K : PySem.W.Frag} {H : Hp} {r : List Int} : ∀ {xs : List Int} {acc : List V}, Paired (fun x v => RowP r x v H) xs acc →
    ∃ (ps : List (Addr × Addr)) (mss : List (List Int)), acc = ps.map (fun p => V.ref p.1) ∧ Paired (fun p kv => SqT K H p.1 [.ref p.2, kv.2] ∧ H p.2 = some (.tup (kv.1.map kV))) ps (mss.map fun ms => (kmap ms, V.bl true)) ∧
      Paired (fun x ms => ms.Perm (r ++ [x]) ∧ ms.Pairwise (· < ·)) xs mss
  | _, _, .nil => ⟨[], [], rfl, .nil, .nil⟩
  | _, _, .cons h t => by
    obtain ⟨t1, q, ms, e, h1, h2, h3, h4⟩ := h
    obtain ⟨ps, mss, e2, p2, p3⟩ := rowP_all (K := K) t
    exact ⟨(t1, q) :: ps, ms :: mss, by rw [e, e2]; rfl, .cons ⟨SqT.of h1, by show H q = some (.tup ((kmap ms).map kV)); rw [kmap_kV]; exact h2⟩ p2, .cons ⟨h3, h4⟩ p3⟩
theorem paired_mem {α β : Type} {R : α → β → Prop} : ∀ {xs : List α} {ys : List β}, Paired R xs ys → (∀ x ∈ xs, ∃ y ∈ ys, R x y) ∧ ∀ y ∈ ys, ∃ x ∈ xs, R x y
  | _, _, .nil => ⟨fun x h => (by cases h), fun y h => (by cases h)⟩
  | _, _, .cons r t => by
    obtain ⟨a, b⟩ := paired_mem t
    refine ⟨fun x hx => ?_, fun y hy => ?_⟩
    · rcases List.mem_cons.mp hx with e | hx
      · exact ⟨_, List.mem_cons_self, by rw [e]; exact r⟩
      · obtain ⟨y, hy, q⟩ := a x hx
        exact ⟨y, List.mem_cons_of_mem _ hy, q⟩
    · rcases List.mem_cons.mp hy with e | hy
      · exact ⟨_, List.mem_cons_self, by rw [e]; exact r⟩
      · obtain ⟨x, hx, q⟩ := b y hy
        exact ⟨x, List.mem_cons_of_mem _ hx, q⟩
theorem tups_of {H : Hp} : ∀ {kvs : List (List Key × V)} {bs : List Addr} {R : List (List Int)}, IsKeys H kvs bs → kvs.map (·.1) = R.map kmap → Paired (TupAt H) (bs.map V.ref) R
  | _, _, [], .nil, _ => .nil
  | _, _, _ :: _, .nil, e => by cases e
  | _, _, [], .cons _ _, e => by cases e
  | _, _, r :: R, .cons h t, e => by
    rw [List.map_cons, List.map_cons] at e
    injection e with e1 e2
    exact .cons ⟨_, rfl, by rw [e1, kmap_kV] at h; exact h⟩ (tups_of t e2)
section
variable {P : Program} {w : World} {K : PySem.W.Frag} {mg : Str → Option Value} {base : Heap}
abbrev sPd : Stmt := top 45
abbrev nPd : List Str := ["bundle", "numbers", "lot", "must", "rows", "number", "names", "longer", "row", "literal", "name"]
theorem scPd : FnScope nPd ["bundle", "numbers", "lot", "must"] (defScope sPd) := ⟨rfl, rfl, rfl, by decide +kernel, rfl, by decide +kernel, by decide +kernel⟩
def spPd (K : PySem.W.Frag) : Sp := fun vs H Q _ => ∃ (b nu lo : Addr) (n : Int) (cs : List (List Int)), vs = [.ref b, .ref nu, .ref lo, .bl false] ∧ Bun K H b n cs ∧ GoodB n cs ∧ n ≤ 5 ∧ SqL K H nu ((upto cs.length).map V.int) ∧ SqL K H lo ((oneTo n).map V.int) ∧
  ∀ H' p xs R, Same H H' → H' p = some (.lst xs) → Paired (TupAt H') xs R → R.length ≤ 32 → RI n cs (tiesB n cs) (upto cs.length) R → Q (.ref p) H'
theorem ok_pd (G : Glo mg) (D : Def K mg "_law_paired" sPd ["bundle", "numbers", "lot", "must"]) : Cal P w K mg base 1 "_law_paired" (spPd K) := by
  refine cal D scPd (fun vs H Q E h => ?_) (fun f cdv A outer s H vs Q E hr h => ?_)
  · obtain ⟨b, nu, lo, n, cs, rfl, _⟩ := h
    rfl
  obtain ⟨b, nu, lo, n, cs, rfl, hB, hg, n5, hnu, hlo, q⟩ := h
  have hu := hr.units
  refine ⟨_, pss_cons (ps_set (i := 4) scPd.nd rfl (.inl rfl) (pe_dispT1 hu (pe_tup pa_nil) pe_bl))
    (pss_cons (ps_for PassesOwn.never rfl (pi_list (pv 1)) (pg_name (i := 5) scPd.nd rfl (.inl rfl))
      (pss_cons (ps_setLc (i := 6) (own := [("literal", 9)]) (g := gName 9) (tt := tTest (tOp (rIn K false) (tCB (fun xs H Q => ∃ i, xs = [.int i] ∧ Q (.int (if i < 0 then -i else i)) H) (tCons (tVar 9) tNil)) (tVar 2))) rfl scPd.nd rfl rfl (sw_true rfl rfl rfl (by decide +kernel)) (pi_tup (pe_ix ix_tup (pe_ix ix_tup (pv 0) pe_int (fun _ _ => rfl)) (pv 5) (fun _ _ => rfl)))
        (blkOk_by (N := nPd) (sc := defScope sPd) (by decide +kernel)) (fun _ _ _ _ _ => pg_name (i := 9) scPd.nd rfl (Or.inl rfl) (Or.inr rfl))
        (fun _ _ _ _ _ => pts_one (pt_cmpR (op_inK K) (pe_callB call_abs (by rfl) G.abs b_abs (pa_cons (pv 9) pa_nil)) (pv 2) rfl))
        (fun _ _ _ _ _ => pe_callB call_abs (by rfl) G.abs b_abs (pa_cons (pv 9) pa_nil)))
      (pss_cons (ps_set (i := 7) scPd.nd rfl (.inl rfl) (pe_ifExp (pt_val (pv 3)) pe_dnewT (pe_callTy (call_dictT hu) (by rfl) G.dict b_dict (pa_cons (pv 4) pa_nil))))
      (pss_cons (ps_lock (ps_for PassesOwn.never rfl (pi_keys (pv 4)) (pg_name (i := 8) scPd.nd rfl (.inr rfl))
        (pss_one (ps_expr (pe_bm PySem.F.plainAttrs_dict PySem.F.slot_dict_update PySem.F.type_dict_update (mt_updT hu) (pv 7) (pa_cons (pe_callTy (call_dictPT rfl hu) (by rfl) G.dict b_dict (pa_cons
          (pe_lc (own := [("name", 10)]) (g := gName 10) (tt := tTest (tOp (rIn K true) (tVar 10) (tVar 8))) rfl scPd.nd (pi_list (pv 6)) (blkOk_by (N := nPd) (sc := defScope sPd) (by decide +kernel))
            (fun _ _ _ _ _ => pg_name (i := 10) scPd.nd rfl (Or.inl rfl) (Or.inr rfl)) (fun _ _ _ _ _ => pts_one (pt_cmpR (op_ninK K) (pv 10) (pv 8) rfl))
            (fun _ _ _ _ _ => pe_tup (pa_cons (pe_callTy (call_tupK K) (by rfl) G.tuple b_tuple (pa_cons (pe_callB (cr_sortedTIK K hu) (by rfl) G.sorted b_sorted (pa_cons (pe_op (op_catK K) (pv 8) (pe_tup (pa_cons (pv 10) pa_nil))) pa_nil)) pa_nil)) (pa_cons pe_bl pa_nil)))) pa_nil)) pa_nil))))))
      (pss_one (ps_set (i := 4) scPd.nd rfl (.inl rfl) (pe_callTy (call_dictT hu) (by rfl) G.dict b_dict (pa_cons (pv 7) pa_nil))))))))
    (pss_one (ps_ret (pe_callTy (call_list_dT rfl) (by rfl) G.list b_list (pa_cons (pv 4) pa_nil))))), ?_⟩
  generalize hT : tiesB n cs = B at q
  have KT0 := tiesB_ok hg
  rw [hT] at KT0
  intro rd hrd
  have x1 := same_new (.dT []) hrd
  refine ⟨(by show 0 ≤ sizeLine; decide), fun e0 he0 => ?_⟩
  have x2 := same_new (.tup []) he0
  refine ⟨x2 _ _ upd_same, e0, [], rfl, upd_same, ?_⟩
  have s3 : Same H (upd (upd (upd H rd (.dT [])) e0 (.tup [])) rd (.dT [([], V.bl true)])) := same_put (x1.trans x2) hrd
  have hM := hg.len
  refine ⟨_, rfl, nu, rfl, ⟨_, s3.seq hnu⟩, ?_⟩
  refine for_y (y_list (K := K) (a := nu) (xs := (upto cs.length).map V.int)).map (fun done σ H4 => Same H H4 ∧ ∃ rd kvs R, H rd = none ∧ H4 rd = some (.dT kvs) ∧ KeysT kvs R ∧ RI n cs B done R ∧ ∃ u5 u6 u7 u8, σ = [some (V.ref b), some (V.ref nu), some (V.ref lo), some (V.bl false), some (V.ref rd), u5, u6, u7, u8, none, none])
    ⟨s3, rd, _, [[]], hrd, upd_same, ⟨rfl, by simp⟩, RI.start n cs B, none, none, none, none, rfl⟩ (fun _ _ σ H4 _ p => p.1.seq hnu) (fun done c rest x σ H4 H5 e p s hx => ?_) fun σ H4 p => ?_
  · subst hx
    obtain ⟨p1, rd, kvs, R, p2, p3, p4, p5, u5, u6, u7, u8, rfl⟩ := p
    have s5 := p1.trans s
    have hcm := mem_upto.mp (show c ∈ upto cs.length by rw [e]; simp)
    have hcd : c ∉ done := fun z => by
      have := upto_nodup cs.length
      rw [e] at this
      exact (List.nodup_append.mp this).2.2 c z c List.mem_cons_self rfl
    have inR : ∀ r ∈ R, In5 r := fun r hr => ⟨(p5.asc r hr).1, fun x hx => by have := (p5.asc r hr).2 x hx; omega⟩
    obtain ⟨c', xs', ya, a1, a2, a3, a4, _⟩ := (hB.same s5).row hcm.1 hcm.2
    have hgc := hg.lit _ (row_mem hcm.1 hcm.2).2
    have lc := hgc.len hg.n7
    refine ⟨_, rfl, b, _, _, _, rfl, rfl, a1, atI_nat (xs := [V.int n, V.ref c']) (j := 1) rfl, _, rfl, c', xs', _, _, rfl, rfl, a2, a3, ya, rfl, ⟨_, a4⟩, fun D hD => ?_⟩
    refine lc_keep (y_tup (K := K) (a := ya) (xs := (row cs c).map V.int)).map hD (fun H6 s6 => Same.tup s6 a4) (fun l => decide (ab l ∈ oneTo n)) (fun l => .int (ab l)) (by omega) (fun l x H6 hm s6 hx R1 R1' hR hR' => ?_) fun H6 s6 e6 => ?_
    · subst hx
      refine ⟨rfl, _, rfl, l, rfl, _, rfl, lo, _, rfl, .inl ((s5.trans s6).seq hlo), rfl, flat_ints _, _, rfl, ?_⟩
      show if inV (.int (ab l)) ((oneTo n).map V.int) = true then _ else _
      rw [inV_int]
      by_cases hl : ab l ∈ oneTo n
      · rw [decide_eq_true hl]
        exact iteT ⟨_, rfl, l, rfl, hR (decide_eq_true hl) H6 (Same.refl _)⟩
      · rw [decide_eq_false hl]
        exact iteF (hR' (decide_eq_false hl) H6 (Same.refl _))
    obtain ⟨ns, hns⟩ : ∃ ns, ns = ((row cs c).filter fun l => decide (ab l ∈ oneTo n)).map ab := ⟨_, rfl⟩
    have eD : H6 D = some (.lst (ns.map V.int)) := by rw [e6, hns, List.map_map]; rfl
    have mns : ∀ x, x ∈ ns ↔ x ∈ LL n cs c := fun x => by
      rw [hns, mem_LL, List.mem_map, List.mem_map]
      constructor
      · rintro ⟨l, hl, el⟩
        obtain ⟨l1, l2⟩ := List.mem_filter.mp hl
        rw [← el]
        exact ⟨mem_oneTo.mp (of_decide_eq_true l2), l, l1, rfl⟩
      · rintro ⟨hx, l, hl, el⟩
        exact ⟨l, List.mem_filter.mpr ⟨hl, decide_eq_true (by rw [el]; exact mem_oneTo.mpr hx)⟩, el⟩
    have lns : ns.length ≤ 7 := by
      have := List.length_filter_le (fun l => decide (ab l ∈ oneTo n)) (row cs c)
      rw [hns, List.length_map]
      omega
    have r6 := s6 _ _ (s _ _ p3)
    have s06 := s5.trans s6
    refine ⟨_, rfl, _, rfl, iteF ⟨_, rfl, rd, kvs, rfl, r6, hash_nd p4.1 p4.2 inR, fun lg hlg => ?_⟩⟩
    have s7 := same_new (.dT kvs) hlg
    have r7 := s7 _ _ r6
    have D7 := s7 _ _ eD
    have l7 : (upd H6 lg (.dT kvs)) lg = some (.dT kvs) := upd_same
    have s07 := s06.trans s7
    have nrl : rd ≠ lg := ne_of_none r6 hlg
    have nDl : D ≠ lg := ne_of_none eD hlg
    have lgn : H lg = none := s06.free hlg
    generalize upd H6 lg (.dT kvs) = H7 at r7 D7 l7 s07
    have nDr : D ≠ rd := ne_of D7 r7 fun z => by cases z
    refine ⟨rd, _, r7, True.intro, fun od => ?_⟩
    refine ⟨_, rfl, rd, od, rfl, .inr ⟨kvs, upd_same, ?_⟩⟩
    refine for_y (y_rows p4.1) (fun d2 σ H8 => But [lg] (upd H7 rd (.frz od (.dT kvs))) H8 ∧ (∃ kv2 R2, H8 lg = some (.dT kv2) ∧ KeysT kv2 R2 ∧ RJ n cs done c R d2 R2) ∧ ∃ u8, σ = [some (V.ref b), some (V.ref nu), some (V.ref lo), some (V.bl false), some (V.ref rd), some (V.int c), some (V.ref D), some (V.ref lg), u8, none, none])
      ⟨But.refl _, ⟨kvs, R, by rw [upd_ne nrl.symm]; exact l7, p4, RJ.start n cs done c R⟩, _, rfl⟩ (fun _ _ σ H8 _ p => p.1 rd _ (by simp [nrl]) upd_same) (fun d2 r rest2 x σ H8 H9 e8 p s8 hx => ?_) fun σ H8 p => ?_
    · obtain ⟨qr, rfl, hqr⟩ := hx
      obtain ⟨q1, ⟨kv2, R2, q2, q3, q4⟩, w8, rfl⟩ := p
      have hrR : r ∈ R := by rw [e8]; simp
      have ar := p5.asc r hrR
      have lr : r.length ≤ 7 := rng7 (asc_nodup ar.1) fun x hx => by have := ar.2 x hx; omega
      have inR2 : ∀ r ∈ R2, In5 r := fun r hr => ⟨(q4.asc p5 r hr).1, fun x hx => by have := (q4.asc p5 r hr).2 x hx; omega⟩
      have l9 := s8 _ _ q2
      have D9 : H9 D = some (.lst (ns.map V.int)) := s8 _ _ (q1 D _ (by simp [nDl]) (by rw [upd_ne nDr]; exact D7))
      refine ⟨_, rfl, .inr (.inr (.inl ⟨rfl, .inr ⟨_, l9⟩⟩)), _, rfl, D, rfl, ⟨_, SqL.of D9⟩, fun D2 hD2 => ?_⟩
      refine lc_rel (y_list (K := K) (a := D) (xs := ns.map V.int)).map hD2 (fun H10 s10 => SqL.of (s10 _ _ D9)) (fun x => !decide (x ∈ r)) (by omega) (RowP r) (fun x v H H' acc e p k => RowP.keeps e p k) (fun x v H10 hm s10 hv R1 R1' hR hR' => ?_) fun H10 acc s10 e10 pr => ?_
      · subst hv
        have q10 := s10 _ _ hqr
        refine ⟨rfl, _, rfl, _, rfl, qr, _, rfl, .inr (SqT.of q10), rfl, flat_ints _, _, rfl, ?_⟩
        show if (!inV (.int x) (r.map V.int)) = true then _ else _
        rw [inV_int]
        by_cases hxr : x ∈ r
        · rw [decide_eq_true hxr]
          exact iteF (hR' (by rw [decide_eq_true hxr]; rfl) H10 (Same.refl _))
        · rw [decide_eq_false hxr]
          refine iteT ⟨_, rfl, _, rfl, (by show 1 ≤ sizeLine; decide), fun t1 h1 => ?_⟩
          have y1 := same_new (.tup [V.int x]) h1
          refine ⟨qr, t1, _, _, rfl, rfl, SqT.of (y1 _ _ q10), SqT.of upd_same, Nat.le_trans (show _ ≤ 8 by rw [List.length_map]; show r.length + 1 ≤ 8; omega) (by decide), fun c1 H11 y2 hc1 => ?_⟩
          refine ⟨c1, r ++ [x], rfl, by rw [List.map_append]; exact hc1, fun ms l2 pm sr hl2 => ?_⟩
          have y3 := same_new (.lst (ms.map V.int)) hl2
          refine ⟨l2, _, rfl, SqL.of upd_same, fun t3 h3 => ?_⟩
          have y4 := same_new (.tup (ms.map V.int)) h3
          refine ⟨(by show 2 ≤ sizeLine; decide), fun t4 h4 => ?_⟩
          have y5 := same_new (.tup [V.ref t3, V.bl true]) h4
          refine hR (by rw [decide_eq_false hxr]; rfl) _ _ ⟨t4, t3, ms, rfl, upd_same, y5 _ _ upd_same, pm, asc_of sr (pm.nodup_iff.mpr (nd_snoc (asc_nodup ar.1) hxr))⟩ ((((y1.trans y2).trans y3).trans y4).trans y5)
      obtain ⟨ps, mss, eacc, pp, pm⟩ := rowP_all (K := K) pr
      subst eacc
      obtain ⟨pm1, pm2⟩ := paired_mem pm
      refine ⟨D2, ps, _, rfl, SqL.of e10, pp, fun pd hpd => ?_⟩
      have l10 := s10 _ _ l9
      have s11 := same_new (.dT (mergeT [] (mss.map fun ms => (kmap ms, V.bl true)))) hpd
      have lmss : mss.length ≤ 7 := by
        rw [← Paired.length pm]
        exact Nat.le_trans (List.length_filter_le _ _) lns
      have lmt := length_mergeT (mss.map fun ms => (kmap ms, V.bl true)) []
      rw [List.length_map] at lmt
      simp only [List.length_nil, Nat.zero_add] at lmt
      obtain ⟨R1, k1, m1⟩ := KeysT.merge (ms := mss) (more := mss.map fun ms => (kmap ms, V.bl true)) (kvs := []) (R := []) ⟨rfl, List.nodup_nil⟩ (by rw [List.map_map]; rfl)
      obtain ⟨R3, k3, m3⟩ := q3.merge k1.1
      have lk2 := q3.len
      have lR2 := in5_len q3.2 inR2
      have ne2 : kv2 ≠ [] := fun z => by
        obtain ⟨r0, hr0, _⟩ := p5.tie
        have := q4.sub r0 hr0
        rw [z] at lk2
        rw [List.length_eq_zero_iff.mp lk2.symm] at this
        cases this
      refine ⟨lg, pd, kv2, _, rfl, rfl, s11 _ _ l10, upd_same, ne_of_none l10 hpd, ne2, Nat.le_trans (show _ ≤ 39 by omega) (by decide), ?_⟩
      refine ⟨but_upd (q1.trans (But.of ((s8.trans s10).trans s11))) (by simp), ⟨_, R3, upd_same, k3, ?_⟩, _, rfl⟩
      refine ⟨fun r0 hr0 => (m3 r0).mpr (.inl (q4.sub r0 hr0)), fun r' hr' => ?_, fun r0 hr0 x hx hxr => ?_⟩
      · rcases (m3 r').mp hr' with h | h
        · exact q4.of r' h
        · rcases (m1 r').mp h with h | h
          · cases h
          · obtain ⟨x, hx, h1, h2⟩ := pm2 r' h
            obtain ⟨x1, x2⟩ := List.mem_filter.mp hx
            exact .inr ⟨h2, r, hrR, x, (mns x).mp x1, by simpa using x2, h1⟩
      · rcases List.mem_append.mp hr0 with hr0 | hr0
        · obtain ⟨r', h1, h2⟩ := q4.all r0 hr0 x hx hxr
          exact ⟨r', (m3 r').mpr (.inl h1), h2⟩
        · rw [List.mem_singleton.mp hr0] at hxr ⊢
          obtain ⟨ms, h1, h2, _⟩ := pm1 x (List.mem_filter.mpr ⟨(mns x).mpr hx, by rw [decide_eq_false hxr]; rfl⟩)
          exact ⟨ms, (m3 ms).mpr (.inr ((m1 ms).mpr (.inr h1))), h2⟩
    · obtain ⟨q1, ⟨kv2, R2, q2, q3, q4⟩, w8, rfl⟩ := p
      refine ⟨q1 rd _ (by simp [nrl]) upd_same, ?_⟩
      have inR2 : ∀ r ∈ R2, In5 r := fun r hr => ⟨(q4.asc p5 r hr).1, fun x hx => by have := (q4.asc p5 r hr).2 x hx; omega⟩
      have sF : Same H (upd H8 rd (.dT kvs)) := fun a o ea => by
        have na : a ≠ rd := ne_of_none ea p2
        rw [upd_ne na]
        exact q1 a o (by simp [ne_of_none ea lgn]) (by rw [upd_ne na]; exact s07 _ _ ea)
      refine ⟨_, rfl, lg, kv2, rfl, by rw [upd_ne nrl.symm]; exact q2, hash_nd q3.1 q3.2 inR2, fun rd2 hrd2 => ?_⟩
      exact ⟨sF.trans (same_new _ hrd2), rd2, kv2, R2, sF.free hrd2, upd_same, q3, RJ.next (L := LL n cs) KT0 hcd p5 q4, _, _, _, _, rfl⟩
  · obtain ⟨p1, rd, kvs, R, p2, p3, p4, p5, u5, u6, u7, u8, rfl⟩ := p
    have inR : ∀ r ∈ R, In5 r := fun r hr => ⟨(p5.asc r hr).1, fun x hx => by have := (p5.asc r hr).2 x hx; omega⟩
    refine ⟨_, rfl, rd, kvs, rfl, .inl p3, fun p bs hp hk => ?_⟩
    have s5 := same_new (.lst (bs.map V.ref)) hp
    refine q _ p _ R (p1.trans s5) upd_same ?_ (in5_len p4.2 inR) p5
    exact L2.Paired.mapP (tups_of hk p4.1) fun _ _ r => r.ext (Ext.of s5)
end
end IdW
end
section
set_option maxRecDepth 100000
namespace IdW
open PySem PySem.Spec PyProof.Rows L2 IdR RZ Idle
theorem eqv_all_ints : ∀ ns ms : List Int, PyData.eqvAll (ns.map .int) (ms.map .int) = decide (ns = ms)
  | [], [] => rfl
  | [], _ :: _ => rfl
  | _ :: _, [] => rfl
  | a :: ns, b :: ms => by
    show (PyData.eqv (.int a) (.int b) && PyData.eqvAll (ns.map .int) (ms.map .int)) = _
    rw [eqv_all_ints ns ms, Bool.eq_iff_iff, Bool.and_eq_true, decide_eq_true_eq, decide_eq_true_eq, List.cons.injEq]
    have : PyData.eqv (.int a) (.int b) = true ↔ a = b := by simp [PyData.eqv]
    rw [this]
theorem eqv_ints (ns ms : List Int) : PyData.eqv (.list (ns.map .int)) (.list (ms.map .int)) = decide (ns = ms) := eqv_all_ints ns ms
section
variable {P : Program} {w : World} {K : PySem.W.Frag} {mg : Str → Option Value} {base : Heap}
/-! ### _law_most_pairs -/
abbrev sMp : Stmt := top 46
theorem scMp : FnScope ["bundle", "numbers", "names", "row"] ["bundle"] (defScope sMp) := ⟨rfl, rfl, rfl, by decide +kernel, rfl, by decide +kernel, by decide +kernel⟩
def spMp (K : PySem.W.Frag) : Sp := fun vs H Q _ => ∃ (b : Addr) (n : Int) (cs : List (List Int)), vs = [.ref b] ∧ Bun K H b n cs ∧ GoodB n cs ∧ n ≤ 5 ∧ ∀ H', Same H H' → Q (.int ((tiesB n cs).length : Int)) H'
theorem ok_mp (G : Glo mg) (cP : Cal P w K mg base 1 "_law_paired" (spPd K)) (D : Def K mg "_law_most_pairs" sMp ["bundle"]) : Cal P w K mg base 2 "_law_most_pairs" (spMp K) := by
  refine cal D scMp (fun vs H Q E h => ?_) (fun f cdv A outer s H vs Q E hr h => ?_)
  · obtain ⟨b, n, cs, rfl, _⟩ := h
    rfl
  obtain ⟨b, n, cs, rfl, hB, hg, n5, q⟩ := h
  refine ⟨_, pss_cons (ps_par (i := 1) (j := 2) rfl scMp.nd rfl rfl (by decide) rfl rfl (pa_cons (pe_listRg rfl (by rfl) G.list (prg_1 (by rfl) G.range (pe_callB call_len_seq (by rfl) G.len b_len (pa_cons (pe_ix ix_tup (pv 0) pe_int (fun _ _ => rfl)) pa_nil))))
      (pa_cons (pe_listRg rfl (by rfl) G.list (prg_2 (by rfl) G.range pe_int (pe_op op_add (pe_ix ix_tup (pv 0) pe_int (fun _ _ => rfl)) pe_int))) pa_nil)) (by rfl))
    (pss_one (ps_ret (pe_callB (cr_max rfl) (by rfl) G.max b_max (pa_cons
      (pe_lc (own := [("row", 3)]) (g := gName 3) (tt := tYes) rfl scMp.nd (pi_list (pe_c cP hr (pa_cons (pv 0) (pa_cons (pv 1) (pa_cons (pv 2) (pa_cons pe_bl pa_nil)))))) (blkOk_by (N := ["bundle", "numbers", "names", "row"]) (sc := defScope sMp) (by decide +kernel))
        (fun _ _ _ _ _ => pg_name (i := 3) scMp.nd rfl (Or.inl rfl) (Or.inr rfl)) (fun _ _ _ _ _ => pts_nil)
        (fun _ _ _ _ _ => pe_callB (call_lenK K) (by rfl) G.len b_len (pa_cons (pv 3) pa_nil))) pa_nil)))), ?_⟩
  obtain ⟨c, xs, a1, a2, hl⟩ := hB.parts
  have hlen := hg.len
  have hn1 := hg.n1
  refine ⟨_, rfl, b, _, _, _, rfl, rfl, a1, atI_nat (xs := [V.int n, V.ref c]) (j := 1) rfl, c, _, rfl, .inr a2, _, rfl, RgOk.of_le (by omega) (by omega) (by omega) (by omega), fun nu hnu => ?_⟩
  have s1 := same_new (.lst (rgV 0 (xs.length : Int))) hnu
  have e1 : (upd H nu (.lst (rgV 0 (xs.length : Int)))) nu = some (.lst ((upto cs.length).map V.int)) := by rw [upd_same, hl, rgV_upto]
  generalize upd H nu (.lst (rgV 0 (xs.length : Int))) = H1 at s1 e1
  refine ⟨_, rfl, b, _, _, _, rfl, rfl, Same.tup s1 a1, atI_nat (xs := [V.int n, V.ref c]) (j := 0) rfl, _, _, rfl, rfl, _, _, rfl, rfl, RgOk.of_le (by omega) (by omega) (by omega) (by omega), fun lo hlo => ?_⟩
  have s2 := same_new (.lst (rgV 1 (n + 1))) hlo
  have e2 : (upd H1 lo (.lst (rgV 1 (n + 1)))) lo = some (.lst ((oneTo n).map V.int)) := by rw [upd_same, rgV_oneTo]
  have e12 := s2 _ _ e1
  have s12 := s1.trans s2
  refine ⟨_, _, rfl, ?_⟩
  refine ⟨_, rfl, _, rfl, _, rfl, b, nu, lo, n, cs, rfl, hB.same s12, hg, n5, SqL.of e12, SqL.of e2, fun H3 p ys R s3 e3 pr lR ri => ?_⟩
  refine ⟨p, rfl, ⟨_, SqL.of e3⟩, fun D hD => ?_⟩
  refine lc_map ((y_list (K := K) (a := p) (xs := ys)).paired (R := TupAt) (bs := R) fun H H' v b s r => r.ext (Ext.of s)) hD (fun H4 s4 => ⟨SqL.of (s4 _ _ e3), L2.Paired.mapP pr fun _ _ r => r.ext (Ext.of s4)⟩) (fun r => .int (r.length : Nat)) (by omega) (fun r x H4 hm s4 hx R1 R1' hR => ?_) fun H4 s4 e4 => ?_
  · obtain ⟨t, rfl, ht⟩ := hx
    refine ⟨rfl, yes ⟨_, rfl, t, _, rfl, .inr (SqT.of ht), ?_⟩⟩
    have := hR H4 (Same.refl _)
    rw [List.length_map]
    exact this
  have K0 := tiesB_ok hg
  obtain ⟨r0, h0, pm0⟩ := ri.tie
  refine ⟨D, R.map fun r => ((r.length : Nat) : Int), rfl, SqL.of (by rw [e4, List.map_map]; rfl), ?_, fun m hm hmax => ?_⟩
  · rw [List.length_map]
    exact List.length_pos_of_mem h0
  have eF : (tiesB n cs).filter (fun p => decide (p.2 ∈ upto cs.length)) = tiesB n cs := List.filter_eq_self.mpr fun p hp => decide_eq_true (K0.sub p hp)
  rw [eF] at pm0
  have l0 := pm0.length_eq
  rw [List.length_map] at l0
  have h1 : ((tiesB n cs).length : Int) ≤ m := by
    have := hmax _ (List.mem_map_of_mem (f := fun r : List Int => ((r.length : Nat) : Int)) h0)
    rw [l0] at this
    exact this
  have h2 : m ≤ ((tiesB n cs).length : Int) := by
    obtain ⟨r, hr, er⟩ := List.mem_map.mp hm
    obtain ⟨M, m1, m2, m3⟩ := ri.pair r hr
    have := pairs_le K0 (upto_nodup _) m1 (m3.nodup_iff.mp (asc_nodup (ri.asc r hr).1)) m2
    have l := m3.length_eq
    rw [List.length_map] at l
    rw [← er]
    omega
  have : m = ((tiesB n cs).length : Int) := by omega
  rw [this]
  exact q H4 ((s12.trans s3).trans s4)
/-! ### _law_numbers -/
abbrev sNu : Stmt := top 48
theorem scNu : FnScope ["state", "bundle", "number"] ["state", "bundle"] (defScope sNu) := ⟨rfl, rfl, rfl, by decide +kernel, rfl, by decide +kernel, by decide +kernel⟩
def spNu (K : PySem.W.Frag) : Sp := fun vs H Q _ => ∃ (st l c : Addr) (N : Nat) (b : Addr) (n : Int) (cs : List (List Int)), vs = [.ref st, .ref b] ∧ StI H st l c N ∧ N ≤ 80000 ∧ Bun K H b n cs ∧ GoodB n cs ∧
  ∀ H' t ns, But [st, l] H H' → StI H' st l c (N + 20) → H' t = some (.tup (ns.map V.int)) → GoodN cs ns → Q (.ref t) H'
theorem ok_nu (G : Glo mg) (cD : Cal P w K mg base 2 "_law_draw" spDraw) (D : Def K mg "_law_numbers" sNu ["state", "bundle"]) : Cal P w K mg base 3 "_law_numbers" (spNu K) := by
  refine cal D scNu (fun vs H Q E h => ?_) (fun f cdv A outer s H vs Q E hr h => ?_)
  · obtain ⟨st, l, c, N, b, n, cs, rfl, _⟩ := h
    rfl
  obtain ⟨st, l, c, N, b, n, cs, rfl, hS, hN, hB, hg, q⟩ := h
  refine ⟨_, pss_one (ps_ret (pe_callTy call_tuple_of (by rfl) G.tuple b_tuple (pa_cons
    (pe_lc (own := [("number", 2)]) (g := gName 2) (tt := tTest (tOp rEq (tCall spDraw [] E0 (tCons (tVar 0) (tCons (L2.tC (.int 2)) tNil))) (L2.tC (.int 0)))) rfl scNu.nd
      (pi_range1 (by rfl) G.range (pa_cons (pe_callB call_len_seq (by rfl) G.len b_len (pa_cons (pe_ix ix_tup (pv 1) pe_int (fun _ _ => rfl)) pa_nil)) pa_nil)) (blkOk_by (N := ["state", "bundle", "number"]) (sc := defScope sNu) (by decide +kernel))
      (fun _ _ _ _ _ => pg_name (i := 2) scNu.nd rfl (Or.inl rfl) (Or.inr rfl)) (fun _ _ _ _ _ => pts_one (pt_cmpR op_eq (pe_c cD hr (pa_cons (pv 0) (pa_cons pe_int pa_nil))) pe_int (nomark _)))
      (fun _ _ _ _ _ => pv 2)) pa_nil))), ?_⟩
  obtain ⟨cc, xs, a1, a2, hl⟩ := hB.parts
  have hlen := hg.len
  refine ⟨_, rfl, b, _, _, _, rfl, rfl, a1, atI_nat (xs := [V.int n, V.ref cc]) (j := 1) rfl, cc, _, rfl, .inr a2, _, rfl, by omega, by omega, fun D hD => ?_⟩
  have ap := hS.apart hD
  refine lc_y (y_rng (lo := 0) (n := ((xs.length : Nat) : Int).toNat)) (fun done H2 => But [st, l] H H2 ∧ StI H2 st l c (N + done.length) ∧ ∃ ns : List Int, H2 D = some (.lst (ns.map V.int)) ∧ ns.length ≤ done.length ∧ ns.Pairwise (· < ·) ∧ ∀ x ∈ ns, 0 ≤ x ∧ x < done.length)
    ⟨But.of (same_new _ hD), hS.upd ap, [], upd_same, Nat.le_refl _, List.Pairwise.nil, fun x hx => (by cases hx)⟩ (fun _ _ _ _ _ => True.intro) (fun done a rest x H2 H3 e p s hx => ?_) fun H2 p => ?_
  · subst hx
    obtain ⟨p1, p2, ns, p3, p4, p5, p6⟩ := p
    have lt : done.length < xs.length := by
      have := congrArg List.length e
      rw [List.length_range, List.length_append, List.length_cons] at this
      omega
    have ea : a = done.length := by
      have h1 : (List.range ((xs.length : Nat) : Int).toNat)[done.length]? = some a := by rw [e]; simp
      rw [List.getElem?_range (by omega)] at h1
      exact (Option.some.inj h1).symm
    subst ea
    refine ⟨rfl, _, rfl, st, l, c, _, 2, rfl, p2.same s, by omega, by omega, by omega, fun H4 v b4 i4 v0 v1 => ⟨rfl, _, rfl, ?_⟩⟩
    have D4 := (p2.same s).keeps b4 (s _ _ p3) ap.st ap.l
    have b04 := (p1.trans (But.of s)).trans b4
    refine ite2 (fun _ => ?_) fun _ => ?_
    · refine ⟨_, rfl, ns.map V.int, D4, small1000 (by rw [List.length_map]; omega), ?_⟩
      refine ⟨fun y o hy eo => ?_, (i4.upd ap).mono (by rw [List.length_append, List.length_singleton]; omega), ns ++ [((done.length : Nat) : Int)], ?_, by rw [List.length_append, List.length_append]; simp only [List.length_singleton]; omega, ?_, fun x hx => ?_⟩
      · rw [upd_ne (ne_of_none eo hD)]
        exact b04 y o hy eo
      · rw [upd_same, List.map_append]
        show some (HO.lst (ns.map V.int ++ [V.int (0 + (done.length : Int))])) = _
        rw [Int.zero_add]
        rfl
      · exact List.pairwise_append.mpr ⟨p5, List.pairwise_singleton _ _, fun x hx y hy => by
          rw [List.mem_singleton.mp hy]
          exact (p6 x hx).2⟩
      · rw [List.length_append, List.length_singleton]
        rcases List.mem_append.mp hx with hx | hx
        · have := p6 x hx
          omega
        · rw [List.mem_singleton.mp hx]
          omega
    · exact ⟨b04, i4.mono (by rw [List.length_append, List.length_singleton]; omega), ns, D4, by rw [List.length_append, List.length_singleton]; omega, p5, fun x hx => by
        have := p6 x hx
        rw [List.length_append, List.length_singleton]
        omega⟩
  · obtain ⟨p1, p2, ns, p3, p4, p5, p6⟩ := p
    rw [List.length_range] at p2 p4 p6
    refine ⟨D, _, rfl, .inl ⟨SqL.of p3, fun t ht => ?_⟩⟩
    have s3 := same_new (.tup (ns.map V.int)) ht
    exact q _ t ns (p1.trans (But.of s3)) ((p2.same s3).mono (by omega)) upd_same ⟨fun x hx => by
      have := p6 x hx
      omega, p5⟩
/-! ### _law_is_matching -/
abbrev sLM : Stmt := top 47
abbrev nLM : List Str := ["bundle", "thing", "number", "literal", "numbers", "names", "one", "name"]
theorem scLM : FnScope nLM ["bundle", "thing"] (defScope sLM) := ⟨rfl, rfl, rfl, by decide +kernel, rfl, by decide +kernel, by decide +kernel⟩
def spLM (K : PySem.W.Frag) : Sp := fun vs H Q _ => ∃ (b t : Addr) (n : Int) (cs : List (List Int)) (xs : List V) (ps : List (Int × Int)), vs = [.ref b, .ref t] ∧ Bun K H b n cs ∧ GoodB n cs ∧ TupP H t xs ∧ PairsAt H xs ps ∧ GoodM cs ps ∧ ∀ H', Same H H' → Q (.bl true) H'
theorem pairs_kvs {K : PySem.W.Frag} {H : Hp} : ∀ {xs : List V} {ps : List (Int × Int)}, PairsAt H xs ps → ∃ as : List Addr, xs = as.map V.ref ∧ Paired (fun p kv => SqT K H p [kV kv.1, kv.2]) as (ps.map fun p => ((Sum.inl p.1 : Key), V.int p.2))
  | _, _, .nil => ⟨[], rfl, .nil⟩
  | _, _, .cons r t => by
    obtain ⟨a, e, q⟩ := r
    obtain ⟨as, e2, q2⟩ := pairs_kvs (K := K) t
    exact ⟨a :: as, by rw [e, e2]; rfl, .cons (SqT.of q) q2⟩
theorem merge_len {ks : List Int} {more : List (Key × V)} (h : more.map (·.1) = ks.map Sum.inl) (hn : ks.Nodup) : (mergeK [] more).length = ks.length := by
  obtain ⟨k1, h1, m1⟩ := KeysI.merge (more := more) (kvs := []) (ks := []) ⟨rfl, List.nodup_nil⟩ fun p hp => by
    have : p.1 ∈ ks.map Sum.inl := by rw [← h]; exact List.mem_map_of_mem hp
    obtain ⟨x, _, ex⟩ := List.mem_map.mp this
    exact ⟨x, ex.symm⟩
  rw [h1.len]
  refine len_eq h1.2 hn fun x => ?_
  rw [m1, h, inl_mem]
  simp
theorem ok_lm (G : Glo mg) (cS : Cal P w K mg base 1 "_law_is_spot" spSpot) (D : Def K mg "_law_is_matching" sLM ["bundle", "thing"]) : Cal P w K mg base 2 "_law_is_matching" (spLM K) := by
  refine cal D scLM (fun vs H Q E h => ?_) (fun f cdv A outer s H vs Q E hr h => ?_)
  · obtain ⟨b, t, n, cs, xs, ps, rfl, _⟩ := h
    rfl
  obtain ⟨b, t, n, cs, xs, ps, rfl, hB, hg, tp, hp, hm, q⟩ := h
  have ht : SqT K H t xs := TupP.sq tp
  have hu := hr.units
  refine ⟨_, pss_cons (ps_if (PW.pt (pw_or (pt_not (pt_val (pe_callB call_isi (by rfl) G.isinstance b_isinstance (pa_cons (pv 1) (pa_cons (pe_bltn (v := .ty "tuple") (by rfl) G.tuple b_tuple rfl) pa_nil)))))
      (pw_or1 (pt_cmpR (op_neD hu)
        (pe_lc (own := [("one", 6)]) (g := gName 6) (tt := tOr (tNot (tB (tCB (rIsi K) (tCons (tVar 6) (tCons (L2.tC (.ty "tuple")) tNil))))) (tTest (tOp rNe (tCB (rLenT K) (tCons (tVar 6) tNil)) (L2.tC (.int 2))))) rfl scLM.nd (pi_tup (pv 1)) (blkOk_by (N := nLM) (sc := defScope sLM) (by decide +kernel))
          (fun _ _ _ _ _ => pg_name (i := 6) scLM.nd rfl (Or.inl rfl) (Or.inr rfl))
          (fun _ _ _ _ _ => pts_one (PW.pt (pw_or (pt_not (pt_val (pe_callB (call_isiK K) (by rfl) G.isinstance b_isinstance (pa_cons (pv 6) (pa_cons (pe_bltn (v := .ty "tuple") (by rfl) G.tuple b_tuple rfl) pa_nil)))))
            (pw_or1 (pt_cmpR op_ne (pe_callB (call_lenK K) (by rfl) G.len b_len (pa_cons (pv 6) pa_nil)) pe_int (nomark _))))))
          (fun _ _ _ _ _ => pe_int)) (pe_lst pa_nil) (nomark _))))) (pss_one (ps_ret pe_bl)) pss_nil)
    (pss_cons (ps_for PassesOwn.never rfl (pi_tup (pv 1)) (pg_tup rfl (pgs_cons (pg_name (i := 2) scLM.nd rfl (.inl rfl)) (pgs_cons (pg_name (i := 3) scLM.nd rfl (.inl rfl)) pgs_nil)))
      (pss_cons (ps_if (PW.pt (pw_or (pt_not (pt_val (pe_c cS hr (pa_cons (pv 2) (pa_cons (pe_callB call_len_seq (by rfl) G.len b_len (pa_cons (pe_ix ix_tup (pv 0) pe_int (fun _ _ => rfl)) pa_nil)) pa_nil)))))
          (pw_or (pt_not (pt_val (pe_callB call_isi (by rfl) G.isinstance b_isinstance (pa_cons (pv 3) (pa_cons (pe_bltn (v := .ty "int") (by rfl) G.int b_int rfl) pa_nil)))))
          (pw_or1 (pt_val (pe_callB call_isi (by rfl) G.isinstance b_isinstance (pa_cons (pv 3) (pa_cons (pe_bltn (v := .ty "bool") (by rfl) G.bool b_bool rfl) pa_nil)))))))) (pss_one (ps_ret pe_bl)) pss_nil)
      (pss_one (ps_if (pt_cmpR op_notIn_seq (pv 3) (pe_ix ix_tup (pe_ix ix_tup (pv 0) pe_int (fun _ _ => rfl)) (pv 2) (fun _ _ => rfl)) rfl) (pss_one (ps_ret pe_bl)) pss_nil))))
    (pss_cons (ps_par (i := 4) (j := 5) rfl scLM.nd rfl rfl (by decide) rfl rfl (pa_cons
        (pe_lc (own := [("one", 6)]) (g := gName 6) (tt := tYes) rfl scLM.nd (pi_tup (pv 1)) (blkOk_by (N := nLM) (sc := defScope sLM) (by decide +kernel))
          (fun _ _ _ _ _ => pg_name (i := 6) scLM.nd rfl (Or.inl rfl) (Or.inr rfl)) (fun _ _ _ _ _ => pts_nil) (fun _ _ _ _ _ => pe_ix (ixt K) (pv 6) pe_int (fun _ _ => rfl))) (pa_cons
        (pe_lc (own := [("one", 6)]) (g := gName 6) (tt := tYes) rfl scLM.nd (pi_tup (pv 1)) (blkOk_by (N := nLM) (sc := defScope sLM) (by decide +kernel))
          (fun _ _ _ _ _ => pg_name (i := 6) scLM.nd rfl (Or.inl rfl) (Or.inr rfl)) (fun _ _ _ _ _ => pts_nil) (fun _ _ _ _ _ => pe_callB call_abs (by rfl) G.abs b_abs (pa_cons (pe_ix (ixt K) (pv 6) pe_int (fun _ _ => rfl)) pa_nil))) pa_nil)) (by rfl))
    (pss_cons (ps_if (PW.pt (pw_or (pt_cmpR (op_neD hu) (pv 4) (pe_callB cr_sorted (by rfl) G.sorted b_sorted (pa_cons (pv 4) pa_nil)) (nomark _))
        (pw_or1 (pt_cmpR op_ne (pe_callB call_lenD (by rfl) G.len b_len (pa_cons (pe_callTy (call_dictTP rfl) (by rfl) G.dict b_dict (pa_cons (pv 1) pa_nil)) pa_nil)) (pe_callB call_len_seq (by rfl) G.len b_len (pa_cons (pv 4) pa_nil)) (nomark _))))) (pss_one (ps_ret pe_bl)) pss_nil)
    (pss_one (ps_ret (pe_cmpR op_eq (pe_callB call_lenD (by rfl) G.len b_len (pa_cons (pe_callTy (call_dictP rfl) (by rfl) G.dict b_dict (pa_cons
        (pe_lc (own := [("name", 7)]) (g := gName 7) (tt := tYes) rfl scLM.nd (pi_list (pv 5)) (blkOk_by (N := nLM) (sc := defScope sLM) (by decide +kernel))
          (fun _ _ _ _ _ => pg_name (i := 7) scLM.nd rfl (Or.inl rfl) (Or.inr rfl)) (fun _ _ _ _ _ => pts_nil) (fun _ _ _ _ _ => pe_tup (pa_cons (pv 7) (pa_cons pe_bl pa_nil)))) pa_nil)) pa_nil)) (pe_callB call_len_seq (by rfl) G.len b_len (pa_cons (pv 5) pa_nil)) (nomark _))))))), ?_⟩
  have lp := hm.len hg
  refine ⟨_, rfl, _, _, _, _, _, rfl, .ty "tuple", ty_tup ht, k_tup_tup, _, rfl, iteF ?_⟩
  refine ⟨_, rfl, t, rfl, ⟨_, ht⟩, fun D hD => ?_⟩
  refine lc_keep (y_pairs (K := K) (a := t)) hD (fun H2 s2 => ⟨Same.tup s2 ht, PairsAt.same s2 hp⟩) (fun _ => false) (fun _ => .int 1) (by omega) (fun p x H2 hmem s2 hx R R' _ hR' => ?_) fun H2 s2 e => ?_
  · obtain ⟨T, rfl, hT⟩ := hx
    exact ⟨rfl, _, rfl, _, _, _, _, _, rfl, .ty "tuple", ty_tup (SqT.of hT), k_tup_tup, _, rfl, iteF ⟨_, rfl, T, _, rfl, .inr (SqT.of hT), rfl, _, rfl, iteB rfl (hR' rfl H2 (Same.refl _))⟩⟩
  have ef : ps.filter (fun _ => false) = [] := List.filter_eq_nil_iff.mpr fun _ _ => Bool.false_ne_true
  rw [ef] at e
  refine ⟨(by show 0 ≤ sizeLine; decide), fun pe hpe => ?_⟩
  have s3 := same_new (.lst []) hpe
  refine ⟨.list [], .list [], .lst (s3.seq (SqL.of e)) .nil, .lst (SqL.of upd_same) .nil, PySem.W.ke_shaped_ints [], PySem.W.ke_shaped_ints [], _, rfl, iteB rfl ?_⟩
  have s13 := s2.trans s3
  refine ⟨_, rfl, t, rfl, ⟨_, Same.tup s13 ht⟩, ?_⟩
  refine for_y (y_pairs (K := K) (a := t) (xs := xs) (ps := ps)) (fun done σ H3 => Same H H3 ∧ ∃ u v, σ = [some (V.ref b), some (V.ref t), u, v, none, none, none, none]) ⟨s13, none, none, rfl⟩ (fun _ _ σ H3 _ p => ⟨Same.tup p.1 ht, PairsAt.same p.1 hp⟩) (fun done p rest x σ H3 H4 e p0 s hx => ?_) fun σ H3 p => ?_
  · obtain ⟨T, rfl, hT⟩ := hx
    obtain ⟨p1, u, v, rfl⟩ := p0
    have s4 := p1.trans s
    have hmem : p ∈ ps := by rw [e]; simp
    obtain ⟨i0, i1⟩ := hm.num p hmem
    obtain ⟨c, ys, ya, a1, a2, a3, a4, hl⟩ := (hB.same s4).row i0 i1
    refine ⟨T, _, rfl, SqT.of hT, rfl, _, _, rfl, _, _, rfl, rfl, ?_⟩
    refine ⟨_, rfl, _, rfl, b, _, _, _, rfl, rfl, a1, atI_nat (xs := [V.int n, V.ref c]) (j := 1) rfl, c, _, rfl, .inr a2, p.1, _, rfl, i0, (by omega), _, rfl, iteF ?_⟩
    refine ⟨_, rfl, _, _, _, _, _, rfl, .ty "int", .base (.int _), k_int_int, _, rfl, iteF ?_⟩
    refine ⟨_, rfl, _, _, _, _, _, rfl, .ty "bool", .base (.int _), k_int_bool, _, rfl, iteF ?_⟩
    refine ⟨_, rfl, _, rfl, b, _, _, _, rfl, rfl, a1, atI_nat (xs := [V.int n, V.ref c]) (j := 1) rfl, _, rfl, c, ys, _, _, rfl, rfl, a2, a3, ya, _, rfl, .inr a4, rfl, flat_ints _, _, rfl, ?_⟩
    show if (!inV (.int p.2) ((row cs p.1).map V.int)) = true then _ else _
    rw [inV_int]
    exact iteNS (hm.lit p hmem) ⟨s4, _, _, rfl⟩
  obtain ⟨p1, u, v, rfl⟩ := p
  have ht3 := Same.tup p1 ht
  have hp3 := PairsAt.same p1 hp
  refine ⟨_, rfl, t, rfl, ⟨_, ht3⟩, fun D1 hD1 => ?_⟩
  refine lc_map (y_pairs (K := K) (a := t)) hD1 (fun H4 s4 => ⟨Same.tup s4 ht3, PairsAt.same s4 hp3⟩) (fun p => .int p.1) (by omega) (fun p x H4 hmem s4 hx R R' hR => ?_) fun H4 s4 e4 => ?_
  · obtain ⟨T, rfl, hT⟩ := hx
    exact ⟨rfl, yes ⟨_, rfl, T, _, _, _, rfl, rfl, SqT.of hT, atI_nat (xs := [V.int p.1, V.int p.2]) (j := 0) rfl, hR H4 (Same.refl _)⟩⟩
  have ht4 := Same.tup s4 ht3
  have hp4 := PairsAt.same s4 hp3
  refine ⟨_, rfl, t, rfl, ⟨_, ht4⟩, fun D2 hD2 => ?_⟩
  refine lc_map (y_pairs (K := K) (a := t)) hD2 (fun H5 s5 => ⟨Same.tup s5 ht4, PairsAt.same s5 hp4⟩) (fun p => .int (ab p.2)) (by omega) (fun p x H5 hmem s5 hx R R' hR => ?_) fun H5 s5 e5 => ?_
  · obtain ⟨T, rfl, hT⟩ := hx
    exact ⟨rfl, yes ⟨_, rfl, T, _, _, _, rfl, rfl, SqT.of hT, atI_nat (xs := [V.int p.1, V.int p.2]) (j := 1) rfl, p.2, rfl, hR H5 (Same.refl _)⟩⟩
  have e45 : H5 D1 = some (.lst ((ps.map (·.1)).map V.int)) := by rw [s5 _ _ e4, List.map_map]; rfl
  have e55 : H5 D2 = some (.lst ((ps.map fun p => ab p.2).map V.int)) := by rw [e5, List.map_map]; rfl
  have s05 := (p1.trans s4).trans s5
  refine ⟨_, _, rfl, ?_⟩
  refine ⟨_, rfl, _, rfl, D1, ps.map (·.1), rfl, SqL.of e45, by rw [List.length_map]; omega, fun ns r pm sr hr => ?_⟩
  have s6 := same_new (.lst (ns.map V.int)) hr
  have ens : ps.map (·.1) = ns := asc_ext hm.asc (asc_of sr (pm.nodup_iff.mpr (asc_nodup hm.asc))) fun z => pm.mem_iff.symm
  refine ⟨.list ((ps.map (·.1)).map .int), .list (ns.map .int), .lst (SqL.of (s6 _ _ e45)) (dpAll_ints _), .lst (SqL.of upd_same) (dpAll_ints _), PySem.W.ke_shaped_ints _, PySem.W.ke_shaped_ints _, _, rfl, ?_⟩
  rw [eqv_ints, decide_eq_true ens]
  refine iteF ?_
  have tp6 := TupP.same (s05.trans s6) tp
  obtain ⟨as, eas, pas⟩ := pairs_kvs (K := K) (PairsAt.same (s05.trans s6) hp)
  rw [eas] at tp6
  refine ⟨_, rfl, t, as, _, rfl, tp6, pas, fun d hd => ?_⟩
  have s7 := same_new (.dK (mergeK [] (ps.map fun p => ((Sum.inl p.1 : Key), V.int p.2)))) hd
  have e47 := s7 _ _ (s6 _ _ e45)
  have e57 := s7 _ _ (s6 _ _ e55)
  refine ⟨d, _, rfl, upd_same, _, rfl, D1, _, rfl, .inl (SqL.of e47), rfl, _, rfl, iteB ?_ ?_⟩
  · have l1 := merge_len (ks := ps.map (·.1)) (more := ps.map fun p => ((Sum.inl p.1 : Key), V.int p.2)) (by rw [List.map_map, List.map_map]; rfl) (asc_nodup hm.asc)
    simp only [l1, List.length_map, decide_true, Bool.not_true]
  have s07 := (s05.trans s6).trans s7
  generalize upd (upd H5 r (.lst (ns.map V.int))) d (.dK (mergeK [] (ps.map fun p => ((Sum.inl p.1 : Key), V.int p.2)))) = H7 at e57 s07
  refine ⟨_, rfl, D2, rfl, ⟨_, SqL.of e57⟩, fun D3 hD3 => ?_⟩
  refine lc_rel (y_list (K := K) (a := D2) (xs := (ps.map fun p => ab p.2).map V.int)).map hD3 (fun H8 s8 => SqL.of (s8 _ _ e57)) (fun _ => true) (by rw [List.length_map]; omega) (fun x v H => ∃ t, v = .ref t ∧ H t = some (.tup [.int (id x), .bl true])) (fun l v H H' acc e p k => new_keeps e (fun _ z => by cases z) p k) (fun x v H8 hmem s8 hv R R' hR _ => ?_) fun H8 acc s8 e8 pr => ?_
  · subst hv
    refine ⟨rfl, yes ⟨_, rfl, by show 2 ≤ sizeLine; decide, fun T hT => ?_⟩⟩
    exact hR rfl _ _ ⟨T, rfl, upd_same⟩ (same_new _ hT)
  have ef2 : (ps.map fun p => ab p.2).filter (fun _ => true) = ps.map fun p => ab p.2 := List.filter_eq_self.mpr fun _ _ => rfl
  rw [ef2] at pr
  obtain ⟨bs, ebs, pbs⟩ := pairs_refs (K := K) (f := id) (v := .bl true) pr
  subst ebs
  refine ⟨D3, bs, _, rfl, SqL.of e8, pbs, fun d2 hd2 => ?_⟩
  have s9 := same_new (.dK (mergeK [] ((ps.map fun p => ab p.2).map fun l => ((Sum.inl (id l) : Key), V.bl true)))) hd2
  refine ⟨d2, _, rfl, upd_same, _, rfl, D2, _, rfl, .inl (SqL.of (s9 _ _ (s8 _ _ e57))), rfl, ?_⟩
  have l2 := merge_len (ks := ps.map fun p => ab p.2) (more := (ps.map fun p => ab p.2).map fun l => ((Sum.inl (id l) : Key), V.bl true)) (by rw [List.map_map]; rfl) hm.nd
  refine qbl ?_ (q _ ((s07.trans s8).trans s9))
  simp only [l2, List.length_map]
end
end IdW
end
section
set_option maxRecDepth 100000
/-! A def's promise where the guards are known to be empty (repr asks that); the end of the row for such a law. -/
namespace IdW
open PySem PySem.Spec PyProof.Rows L2 IdR RZ Idle
structure FnG (P : Program) (w : World) (K : PySem.W.Frag) (mg : Str → Option Value) (base : Heap) (k : Nat) (f : Addr) (fd : FuncData) (ps : List Str) (sp : Sp) : Prop where
  len : ∀ vs H Q E, sp vs H Q E → vs.length = ps.length
  run : ∀ (A : Around) (outer : List Env) (s : Shared) (H : Hp) (args : Args) (us : List Value) (vs : List V) (Q : VK) (E : XK), A.guards = some [] → Room k A →
    Env0 P w K mg base A outer s H → BindsTo s fd args (ps.zip us) → Vals vs us → sp vs H Q E → codeAny (model P w) A (.call (.ref f) args) (CR CX0 outer P w H s Q E) s
section
variable {P : Program} {w : World} {K : PySem.W.Frag} {mg : Str → Option Value} {base : Heap}
theorem fnG {x qual : Str} {st : Stmt} {f : Addr} {fd : FuncData} {N ps : List Str} {k : Nat} {sp : Sp} (F : Fun K x qual st f fd) (S : FnScope N ps (defScope st)) (len : ∀ vs H Q E, sp vs H Q E → vs.length = ps.length)
    (hb : ∀ (cdv : Value) (A : Around) (outer : List Env) (s : Shared) (H : Hp) (vs : List V) (Q : VK) (E : XK), (A.deeper (envOfC qual (defScope st) s.heap.objs.size f cdv)).guards = some [] → Room k (A.deeper (envOfC qual (defScope st) s.heap.objs.size f cdv)) → sp vs H Q E →
      ∃ t, PSs (cxOf CX0 P w K mg base N qual (defScope st) f cdv A outer s H E).nox (defBody st) t ∧ t { nx := fun _ H' => Q .non H', rt := Q } (start N vs) H) : FnG P w K mg base (k + 1) f fd ps sp := by
  obtain ⟨oc, od, kV, doc, pm, an, cdv, ct, osl, e, look, code⟩ := F.ex
  subst e
  refine ⟨len, fun A outer s H args us vs Q E hG room en bd rv hsp => ?_⟩
  have nl := len _ _ _ _ hsp
  have kin : K.In s.heap := en.mod.kin.keeps fun b o q => (en.bs b o q).1
  have nolim : s.heap.NoLimit := en.mod.nolimit.keeps fun b o q => (en.bs b o q).1
  have kinds : ∀ y ∈ ps.zip us, (defScope st).names.lookup y.1 = some .local ∨ ((defScope st).names.lookup y.1 = some .cell ∧ ((cellsFrom (s.heap.objs.size + 1) (defScope st).names []).lookup y.1).isSome = true) := fun y hy => by
    obtain ⟨nm, vv⟩ := y
    exact (S.par nm (List.of_mem_zip hy).1).imp id fun q => ⟨q, PySem.W.cellsFrom_some _ _ _ (.inl q)⟩
  refine codeAny_call_function room.depth (kin _ _ look) rfl S.co S.gen rfl (PySem.W.codeRec_of kin code) (bd _ _ _ _ (wpAny_newFunctionEnv_cells S.kind kinds fun env he s1 z => ?_))
  subst he
  obtain ⟨t, ht, hq⟩ := hb cdv A outer s H vs Q E hG (room.deeper _) hsp
  have I := inv_start (CX := CX0) (E := E) (f := f) (cd := cdv) (qual := qual) S room.hd en nl rv z
  have fin : ∀ {σ2 : L2.St} {H2 : Hp} {s2 : Shared} {v : V} {u : Value}, Inv (cxOf CX0 P w K mg base N qual (defScope st) f cdv A outer s H E) [] σ2 H2 s2 → RelV v u → Q v H2 → CE outer P w H s Q u s2 :=
    fun {σ2 H2 s2 v u} J r q => ⟨v, H2, J.os, J.bare, J.base, J.hok, r, q⟩
  refine ⟨nolim.keeps z.toInCall.keep, codeAny_func (wpAny_mono (ht.nox.run [] s1 (start N vs) H _ I hq) (fun fl s2 hs => ?_) fun e s2 hs => hs)⟩
  cases fl with
  | ret u => obtain ⟨v, σ2, H2, J, r, q⟩ := hs; exact fin J r q
  | next => obtain ⟨σ2, H2, J, q⟩ := hs; exact fin (v := V.non) (u := Value.none) J rfl q
  | brk => obtain ⟨_, _, _, q⟩ := hs; exact q.elim
  | cont => obtain ⟨_, _, _, q⟩ := hs; exact q.elim
end
/-- a def that may be called by its name, the guards empty -/
structure CalG (P : Program) (w : World) (K : PySem.W.Frag) (mg : Str → Option Value) (base : Heap) (k : Nat) (x : Str) (sp : Sp) : Prop where
  ex : ∃ (f : Addr) (fd : FuncData) (ps : List Str), FnG P w K mg base k f fd ps sp ∧ mg x = some (.ref f) ∧ PySem.W.keepIn K (.ref f) = true ∧ Binds K fd ps []
section
variable {X : Cx} {k j : Nat} {x : Str} {sp : Sp} {p pos : Pos} {e : Expr} {es : List Expr} {t : TA}
theorem pe_cG (c : CalG X.prog X.w X.K X.mg X.base k x sp) (hG : X.A.guards = some []) (hr : Room j X.A) (ha : PA X (e :: es) t) (hk : k ≤ j := by decide) (hg : Gl X x := by rfl)
    (hdb : (x == ("__debug__" : Str)) = false := by decide) (he : starEach (e :: es) X.env = (false, eval e X.env) :: starEach es X.env := by rfl) (hpl : (backTo pos (starEach es X.env)).any (·.1) = false := by rfl) :
    PE X (.Call (.Name x p) (e :: es) [] pos) (tCall sp [] E0 t) := by
  obtain ⟨f, fd, ps, F, hm, kp, b⟩ := c.ex
  refine ⟨fun pins s σ H Q I h => wpAny_Call_Name_kw (ld_glob I hg hm ?_ hdb)⟩
  refine PySem.W.callWith_K (h₀ := X.base) I.ok.mod.kin kp (thn (ha.run pos pins s σ H _ I h) fun us s1 z => ?_) he hpl
  obtain ⟨vs, H1, I1, r, q⟩ := z
  refine ⟨I1.kIn, ?_⟩
  rw [List.append_nil] at q
  have hl : us.length = ps.length := by rw [← r.length]; exact F.len _ _ _ _ q
  have bd := b s1 us I1.kIn (by rw [List.append_nil]; exact hl)
  rw [List.append_nil] at bd
  refine wpAny_call (codeAny_mono (F.run X.A X.stack s1 H1 ⟨us, []⟩ us vs Q E0 hG (hr.mono hk) I1.env0 bd r q) fun r2 s2 hq => ?_)
  cases r2 with
  | error e => exact False.elim hq
  | ok fl =>
    cases fl with
    | ret u => exact I1.after hq
    | next => exact False.elim hq
    | brk => exact False.elim hq
    | cont => exact False.elim hq
end
/-- at the row's end: the def is called once, of the script, with nothing around -/
theorem lawG_call {P : Program} {w : World} {K : PySem.W.Frag} {mg mb : Str → Option Value} {k : Nat} {fa a : Addr} {fd : FuncData} {x : Str} {sp : Sp} {s₁ : Shared} {vs : List Value} {ns : List Int}
    (kin : K.In s₁.heap) (nsM : s₁.heap.Ns mainGlobals mg) (nsB : s₁.heap.Ns builtinsNs mb) (boot : ∀ y : Str, y ≠ "__name__" → mb y = bootBuiltins y) (lim : s₁.heap.NoLimit) (gens : s₁.gens = #[])
    (obj : s₁.heap.get? a = some { cls := .type "list", data := .seq vs.toArray }) (hints : IntsAre vs ns) (few : ns.length ≤ sizeLine) (room : Room k callerA)
    (F : ∀ base : Heap, K.In base → base.Ns mainGlobals mg → FnG P w K mg base k fa fd [x] sp) (bind : ∀ (s : Shared) (u : Value), BindsTo s fd ⟨[u], []⟩ [(x, u)])
    (ask : ∀ H : Hp, SqL K H a (ns.map V.int) → sp [.ref a] H (fun v _ => v = .bl true) fun _ _ _ => False) :
    codeAny (model P w) callerA (.call (.ref fa) ⟨[.ref a], []⟩) (fun r s2 => r = .ok (.ret (.bool true)) ∧ OldK s₁.heap s2.heap ∧ s2.os = s₁.os ∧ AllBare s2.gens) s₁ := by
  have rv := vals_ints hints
  have lenV := hints.length
  -- H holds the script at most, known to its object
  have core : ∀ H : Hp, (∀ b u, H b = some u → b = a ∧ K.lookup a = none ∧ ∃ o xs, u = .frz o (.lst xs)) → SqL K H a (ns.map V.int) → HOk P w H s₁.heap →
      codeAny (model P w) callerA (.call (.ref fa) ⟨[.ref a], []⟩) (fun r s2 => r = .ok (.ret (.bool true)) ∧ OldK s₁.heap s2.heap ∧ s2.os = s₁.os ∧ AllBare s2.gens) s₁ := by
    intro H only sq hok
    have free : ∀ {b : Addr} {o : Obj}, s₁.heap.get? b = some o → (∀ it n, o.data ≠ .seq it n) → H b = none := fun {b o} e nd => by
      cases q : H b with
      | none => rfl
      | some u =>
        rw [(only b u q).1, obj] at e
        cases e
        exact absurd rfl (nd _ _)
    have ns2 : ∀ {b : Addr} {m : Str → Option Value}, s₁.heap.Ns b m → (hidT s₁.heap H).Ns b m := fun {b m} z => by
      obtain ⟨o, es, ep, e, d, r⟩ := z
      exact ⟨o, es, ep, hidT_get e (free e fun it n q => by rw [d] at q; cases q), d, r⟩
    have kb : K.In (hidT s₁.heap H) := fun b o e => hidT_get (kin b o e) (by
      cases q : H b with
      | none => rfl
      | some u =>
        obtain ⟨z1, z2, _⟩ := only b u q
        rw [z1, z2] at e
        cases e)
    have md : Mod K mg (hidT s₁.heap H) := ⟨kb, ns2 nsM, ⟨mb, ns2 nsB, boot⟩, by
      obtain ⟨mc, z1, z2⟩ := lim
      exact ⟨mc, ns2 z1, z2⟩⟩
    have en : Env0 P w K mg (hidT s₁.heap H) callerA [] s₁ H := ⟨rfl, md, fun b o e => of_hidT e, Nat.le_of_eq (hidT_size _ _), trivial, (fun b hb => (by cases hb)), hok, .of_eq gens⟩
    refine codeAny_mono ((F _ kb (ns2 nsM)).run callerA [] s₁ H ⟨[.ref a], []⟩ [.ref a] [.ref a] _ _ rfl room en (bind s₁ (.ref a)) (.cons rfl .nil) (ask H sq)) fun r s2 h => ?_
    cases r with
    | error e => exact False.elim h
    | ok fl =>
      cases fl with
      | next => exact False.elim h
      | brk => exact False.elim h
      | cont => exact False.elim h
      | ret u =>
        obtain ⟨v, H2, os, bare, un, hok2, r2, q⟩ := h
        have ev : v = .bl true := q
        subst ev
        have eu : u = Value.bool true := r2
        subst eu
        refine ⟨rfl, OldK.of_keep fun b o e => ?_, os, bare⟩
        cases q : H b with
        | none => exact un.keep b o e q (fun z => by cases z) (fun z => by cases z)
        | some u =>
          obtain ⟨_, _, ob, xs, eu⟩ := only b u q
          subst eu
          have e1 := (hok b _ q).1
          have e2 := (hok2 b _ (un.frzs b ob _ q)).1
          rw [e] at e1
          cases e1
          exact e2
  cases hk : K.lookup a with
  | some o =>
    have e := kin a o hk
    rw [obj] at e
    cases e
    exact core (fun _ => none) (fun b u z => by cases z) (.inr ⟨_, vs.toArray, _, hk, rfl, rfl, rfl, by rw [List.size_toArray, lenV]; exact few, by simpa using rv⟩) fun b u z => by cases z
  | none =>
    refine core (upd (fun _ => none) a (.frz { cls := .type "list", data := .seq vs.toArray } (.lst (ns.map V.int)))) (fun b u z => ?_) (.inl (.inr ⟨_, upd_same⟩)) fun b u z => ?_
    · by_cases hb : b = a
      · rw [hb, upd_same] at z
        cases z
        exact ⟨hb, hk, _, _, rfl⟩
      · rw [upd_ne hb] at z
        cases z
    · by_cases hb : b = a
      · rw [hb, upd_same] at z
        cases z
        rw [hb]
        exact ⟨obj, by rw [List.length_map]; exact few, vs, _, rv, obj⟩
      · rw [upd_ne hb] at z
        cases z
theorem walkG_of {l : PySem.W.OpenLaw} {n k : Nat} {q : Program} {loose : List Str} {XP : (Str → Option Value) → Heap → Prop} {YP : World → Heap → Prop} {d : DefRec} {K : Params → PySem.W.Frag} {sp : PySem.W.Frag → Sp} {x : Str}
    (most : l.most = some n) (few : n ≤ sizeLine) (dflt : d.params.defaults = []) (room : Room k callerA) (kin : ∀ (w : World) (h : Heap), YP w h → (K w.params).In h)
    (F : ∀ (w : World) (mg : Str → Option Value) (fa : Addr) (h : Heap), (K w.params).In h → h.Ns mainGlobals mg → mg d.name = some (.ref fa) →
      ∃ fd : FuncData, (∀ (s : Shared) (u : Value), BindsTo s fd ⟨[u], []⟩ [(x, u)]) ∧ ∀ base : Heap, (K w.params).In base → base.Ns mainGlobals mg → FnG l.prog w (K w.params) mg base k fa fd [x] (sp (K w.params)))
    (ask : ∀ (K : PySem.W.Frag) (H : Hp) (a : Addr) (ns : List Int), ns.length ≤ n → SqL K H a (ns.map V.int) → sp K [.ref a] H (fun v _ => v = .bl true) fun _ _ _ => False) :
    PySem.W.WalkO q loose XP YP l.row.toRowW d [] (fun f vs => PySem.call f vs) :=
  Att.attach_call most dflt fun w _ s₁ mg _ fa _ _ _ _ a vs ns G Y _ _ _ hmg obj hints len gens => by
    have kx := kin w _ Y
    obtain ⟨fd, hb, hF⟩ := F w mg fa _ kx G.T.g hmg
    exact lawG_call kx G.T.g G.T.b G.T.builtins G.T.nolimit gens obj hints (Nat.le_trans len few) room hF hb fun H hS => ask _ H a ns len hS
end IdW
end
section
set_option maxRecDepth 100000
/-! What repr shows of small data is short. -/
namespace IdW
open PySem PySem.Spec PyProof.Rows L2 IdR RZ Idle
mutual
def tiny : PyData → Bool
  | .int i => decide (-20 ≤ i ∧ i ≤ 20)
  | .list xs | .tuple xs => tinyAll xs
  | _ => false
def tinyAll : List PyData → Bool
  | [] => true
  | x :: xs => tiny x && tinyAll xs
end
mutual
def wgt : PyData → Nat
  | .list xs | .tuple xs => 1 + wgtAll xs
  | _ => 1
def wgtAll : List PyData → Nat
  | [] => 0
  | x :: xs => wgt x + wgtAll xs
end
theorem int_len : ∀ i : Int, -20 ≤ i → i ≤ 20 → ((toString i : String) : Str).length ≤ 4 ∧ i.natAbs.log2 < 1920 := by
  have all : ∀ k : Fin 41, ((toString (((k : Nat) : Int) - 20) : String) : Str).length ≤ 4 ∧ (((k : Nat) : Int) - 20).natAbs.log2 < 1920 := by decide +kernel
  intro i h1 h2
  have := all ⟨(i + 20).toNat, by omega⟩
  have e : ((((i + 20).toNat : Nat) : Int) - 20) = i := by omega
  rw [show (((⟨(i + 20).toNat, by omega⟩ : Fin 41) : Nat) : Int) - 20 = i from e] at this
  exact this
theorem from_len : ∀ (ts : List Str) (k : Nat) (acc : Str), (textFrom k acc ts).length ≤ acc.length + piled ts
  | [], k, acc => Nat.le_refl _
  | t :: ts, k, acc => by
    have ih := from_len ts (k + 1) (acc ++ (if k > 0 then ", " else "" : String) ++ t)
    rw [strLen_append, strLen_append] at ih
    have h2 : ((if k > 0 then ", " else "" : String) : Str).length ≤ 2 := by split <;> decide +kernel
    rw [piled_cons]
    show (textFrom (k + 1) (acc ++ (if k > 0 then ", " else "" : String) ++ t) ts).length ≤ _
    omega
mutual
theorem tiny_ok : ∀ d : PyData, tiny d = true → d.showable = true ∧ d.hasDict = false ∧ d.shown.length + 2 ≤ 8 * wgt d
  | .int i, h => by
    obtain ⟨h1, h2⟩ := of_decide_eq_true (show decide (-20 ≤ i ∧ i ≤ 20) = true from h)
    obtain ⟨a, b⟩ := int_len i h1 h2
    refine ⟨decide_eq_true b, rfl, ?_⟩
    show ((toString i : String) : Str).length + 2 ≤ 8 * 1
    omega
  | .list xs, h => by
    obtain ⟨a, b, c⟩ := tinyAll_ok xs h
    refine ⟨a, b, ?_⟩
    show (textFrom 0 "[" (PyData.shownAll xs) ++ "]" : Str).length + 2 ≤ 8 * (1 + wgtAll xs)
    rw [strLen_append]
    have h1 := from_len (PyData.shownAll xs) 0 "["
    have h2 : ("[" : Str).length = 1 := rfl
    have h3 : ("]" : Str).length = 1 := rfl
    omega
  | .tuple xs, h => by
    obtain ⟨a, b, c⟩ := tinyAll_ok xs h
    refine ⟨a, b, ?_⟩
    show (("(" : Str) ++ Str.join ", " (PyData.shownAll xs) ++ (if (PyData.shownAll xs).length == 1 then ",)" else ")" : String) : Str).length + 2 ≤ 8 * (1 + wgtAll xs)
    rw [strLen_append, strLen_append]
    have h2 : ("(" : Str).length = 1 := rfl
    have h3 : ((if (PyData.shownAll xs).length == 1 then ",)" else ")" : String) : Str).length ≤ 2 := by split <;> decide +kernel
    have h4 : (Str.join ", " (PyData.shownAll xs)).length ≤ piled (PyData.shownAll xs) := by
      by_cases e : PyData.shownAll xs = []
      · rw [e]; exact Nat.le_refl _
      · have := join_length_add _ e
        omega
    omega
  | .none, h => by cases h
  | .bool _, h => by cases h
  | .str _, h => by cases h
  | .dict _, h => by cases h
theorem tinyAll_ok : ∀ xs : List PyData, tinyAll xs = true → PyData.showableAll xs = true ∧ PyData.hasDictAll xs = false ∧ piled (PyData.shownAll xs) ≤ 8 * wgtAll xs
  | [], _ => ⟨rfl, rfl, Nat.le_refl _⟩
  | x :: xs, h => by
    have h : (tiny x && tinyAll xs) = true := h
    rw [Bool.and_eq_true] at h
    obtain ⟨a, b, c⟩ := tiny_ok x h.1
    obtain ⟨a2, b2, c2⟩ := tinyAll_ok xs h.2
    refine ⟨by show (x.showable && PyData.showableAll xs) = true; rw [a, a2]; rfl, by show (x.hasDict || PyData.hasDictAll xs) = false; rw [b, b2]; rfl, ?_⟩
    show piled (x.shown :: PyData.shownAll xs) ≤ 8 * (wgt x + wgtAll xs)
    rw [piled_cons]
    omega
end
/-- repr of small data -/
def rReprT (K : PySem.W.Frag) : List V → Hp → VK → Prop := fun xs H Q => ∃ (a : Addr) (d : PyData), xs = [.ref a] ∧ Dp K H (.ref a) d ∧ tiny d = true ∧ d.depth ≤ 50 ∧ wgt d ≤ 1000 ∧ Q (.str d.shown) H
theorem call_reprT {X : Cx} (hg : X.A.guards = some []) (hu : X.A.units + 64 < cLine) : CallR X (.builtin "repr") (rReprT X.K) := by
  intro pins s σ H xs us Q I r h
  obtain ⟨a, d, e, hd, ht, dp, hw, q⟩ := h
  obtain ⟨h1, h2, h3⟩ := tiny_ok d ht
  exact call_reprD hg hu pins s σ H xs us Q I r ⟨a, d, e, hd, h1, h2, dp, Nat.le_trans (show _ ≤ 8000 by omega) (by decide), q⟩
theorem tinyAll_map {α : Type} {f : α → PyData} : ∀ {xs : List α}, (∀ x ∈ xs, tiny (f x) = true) → tinyAll (xs.map f) = true
  | [], _ => rfl
  | x :: xs, h => by
    show (tiny (f x) && tinyAll (xs.map f)) = true
    rw [h x List.mem_cons_self, tinyAll_map fun y hy => h y (List.mem_cons_of_mem _ hy)]
    rfl
theorem wgtAll_map {α : Type} {f : α → PyData} {k : Nat} : ∀ {xs : List α}, (∀ x ∈ xs, wgt (f x) ≤ k) → wgtAll (xs.map f) ≤ k * xs.length
  | [], _ => Nat.zero_le _
  | x :: xs, h => by
    show wgt (f x) + wgtAll (xs.map f) ≤ k * (xs.length + 1)
    have h1 := h x List.mem_cons_self
    have h2 := wgtAll_map (f := f) (k := k) (xs := xs) fun y hy => h y (List.mem_cons_of_mem _ hy)
    rw [Nat.mul_add]
    omega
theorem depthAll_map {α : Type} {f : α → PyData} {k : Nat} : ∀ {xs : List α}, (∀ x ∈ xs, (f x).depth ≤ k) → PyData.depthAll (xs.map f) ≤ k
  | [], _ => Nat.zero_le _
  | x :: xs, h => by
    show max (f x).depth (PyData.depthAll (xs.map f)) ≤ k
    exact Nat.max_le.mpr ⟨h x List.mem_cons_self, depthAll_map fun y hy => h y (List.mem_cons_of_mem _ hy)⟩
end IdW
end
section
set_option maxRecDepth 100000
/-! Plain facts that the law's checks lean on. -/
namespace IdW
open PySem PySem.Spec PyProof.Rows L2 IdR RZ Idle
section
variable {n : Int} {cs : List (List Int)}
theorem lit_ok {x c : Int} (h : x ∈ LL n cs c) : lit cs x c ∈ row cs c ∧ ab (lit cs x c) = x := by
  obtain ⟨⟨h1, h2⟩, h3⟩ := mem_LL.mp h
  obtain ⟨l, hl, el⟩ := List.mem_map.mp h3
  unfold lit
  by_cases hx : x ∈ row cs c
  · rw [if_pos hx]
    exact ⟨hx, ab_pos (by omega)⟩
  · rw [if_neg hx]
    have e : l = 0 - x := by
      unfold ab at el
      split at el
      · omega
      · rw [← el] at hx
        exact absurd hl hx
    rw [← e]
    exact ⟨hl, el⟩
theorem goodM_of (hg : GoodB n cs) {ps : List (Int × Int)} (pm : ps.Perm (matchB n cs)) (sr : ps.Pairwise LeP) : GoodM cs ps := by
  have K := tiesB_ok hg
  have mem : ∀ p ∈ ps, ∃ q ∈ tiesB n cs, p = (q.2, lit cs q.1 q.2) := fun p hp => by
    obtain ⟨q, hq, e⟩ := List.mem_map.mp (pm.mem_iff.mp hp)
    exact ⟨q, hq, e.symm⟩
  refine ⟨fun p hp => ?_, fun p hp => ?_, ?_, ?_⟩
  · obtain ⟨q, hq, e⟩ := mem p hp
    rw [e]
    exact tiesB_num hg q hq
  · obtain ⟨q, hq, e⟩ := mem p hp
    rw [e]
    exact (lit_ok (K.valid q hq)).1
  · refine asc_of (List.pairwise_map.mpr (sr.imp fun z => ?_)) ?_
    · rw [LeP.iff] at z
      omega
    · have p2 := pm.map (·.1)
      have e : (matchB n cs).map (·.1) = (tiesB n cs).map (·.2) := by unfold matchB pairsB; rw [List.map_map]; rfl
      rw [e] at p2
      exact p2.nodup_iff.mpr K.ndv
  · have p2 := pm.map fun p => ab p.2
    have e : (matchB n cs).map (fun p => ab p.2) = (tiesB n cs).map (·.1) := by
      unfold matchB pairsB
      rw [List.map_map]
      exact List.map_congr_left fun q hq => (lit_ok (K.valid q hq)).2
    rw [e] at p2
    exact p2.nodup_iff.mpr K.nd
theorem match_len {ps : List (Int × Int)} (pm : ps.Perm (matchB n cs)) : ps.length = (tiesB n cs).length := by
  rw [pm.length_eq]
  unfold matchB pairsB
  rw [List.length_map]
theorem GoodM.sub {ps qs : List (Int × Int)} (h : GoodM cs ps) (s : qs.Sublist ps) : GoodM cs qs :=
  ⟨fun p hp => h.num p (s.subset hp), fun p hp => h.lit p (s.subset hp), h.asc.sublist (s.map _), h.nd.sublist (s.map _)⟩
theorem named_iff (hg : GoodB n cs) {ns : List Int} (hn : ∀ i ∈ ns, 0 ≤ i ∧ i < cs.length) (x : Int) : Named (ns.map (row cs)) x ↔ ∃ c ∈ ns, x ∈ LL n cs c := by
  constructor
  · rintro ⟨r, hr, l, hl, e⟩
    obtain ⟨c, hc, er⟩ := List.mem_map.mp hr
    have i := hn c hc
    rw [← er] at hl
    have := (hg.lit _ (row_mem i.1 i.2).2).1 l hl
    exact ⟨c, hc, mem_LL.mpr ⟨by omega, List.mem_map.mpr ⟨l, hl, e⟩⟩⟩
  · rintro ⟨c, hc, hx⟩
    obtain ⟨l, hl, e⟩ := List.mem_map.mp (mem_LL.mp hx).2
    exact ⟨row cs c, List.mem_map_of_mem hc, l, hl, e⟩
theorem more_few (hg : GoodB n cs) {ns nm : List Int} (hn : GoodN cs ns) (h : NamesAre cs ns nm) : ns.length + (tiesB n cs).length ≤ nm.length + cs.length := by
  have := more_le (tiesB_ok hg) (upto_nodup _) (asc_nodup hn.asc) (fun c hc => mem_upto.mpr (hn.num c hc)) (nm := nm) fun c hc x hx => (h.2 x).mpr ((named_iff hg hn.num x).mpr ⟨c, hc, hx⟩)
  rwa [upto_len] at this
theorem reach_good (hg : GoodB n cs) {ns : List Int} (hr : ReachN n cs ns) : GoodN cs ns := ⟨fun i hi => mem_upto.mp (((hr.2 i).mp hi).mem (tiesB_ok hg)), hr.1⟩
theorem more_just (hg : GoodB n cs) {ns nm : List Int} (hr : ReachN n cs ns) (h : NamesAre cs ns nm) : ns.length + (tiesB n cs).length = nm.length + cs.length := by
  have := more_reach (tiesB_ok hg) (upto_nodup _) (asc_nodup hr.1) hr.2 (asc_nodup h.1) fun x => (h.2 x).trans (named_iff hg (reach_good hg hr).num x)
  rwa [upto_len] at this
theorem names_one {ns nm nm' : List Int} (h : NamesAre cs ns nm) (h' : NamesAre cs ns nm') : nm = nm' := asc_ext h.1 h'.1 fun z => (h.2 z).trans (h'.2 z).symm
theorem reach_one {ns ns' : List Int} (h : ReachN n cs ns) (h' : ReachN n cs ns') : ns = ns' := asc_ext h.1 h'.1 fun z => (h.2 z).trans (h'.2 z).symm
theorem names_len (hg : GoodB n cs) {ns nm : List Int} (hn : GoodN cs ns) (h : NamesAre cs ns nm) : nm.length ≤ 7 := rng7 (asc_nodup h.1) fun x hx => by
  obtain ⟨c, hc, hx⟩ := (named_iff hg hn.num x).mp ((h.2 x).mp hx)
  have := (mem_LL.mp hx).1
  have := hg.n7
  omega
end
/-! ### small data -/
def pairD (p : Int × Int) : PyData := .tuple [.int p.1, .int p.2]
def pairsD (ps : List (Int × Int)) : PyData := .tuple (ps.map pairD)
def intsD (ns : List Int) : PyData := .tuple (ns.map .int)
theorem tiny_int {i : Int} (h : -20 ≤ i ∧ i ≤ 20) : tiny (.int i) = true := decide_eq_true h
theorem tiny_ints {ns : List Int} (h : ∀ i ∈ ns, -20 ≤ i ∧ i ≤ 20) : tiny (intsD ns) = true := tinyAll_map fun i hi => tiny_int (h i hi)
theorem tiny_pairs {ps : List (Int × Int)} (h : ∀ p ∈ ps, (-20 ≤ p.1 ∧ p.1 ≤ 20) ∧ -20 ≤ p.2 ∧ p.2 ≤ 20) : tiny (pairsD ps) = true := tinyAll_map fun p hp => by
  show (tiny (.int p.1) && (tiny (.int p.2) && true)) = true
  rw [tiny_int (h p hp).1, tiny_int (h p hp).2]
  rfl
theorem wgt_ints (ns : List Int) : wgt (intsD ns) ≤ 1 + ns.length := by
  have := wgtAll_map (f := PyData.int) (k := 1) (xs := ns) fun _ _ => Nat.le_refl _
  show 1 + wgtAll (ns.map .int) ≤ _
  omega
theorem wgt_pairs (ps : List (Int × Int)) : wgt (pairsD ps) ≤ 1 + 3 * ps.length := by
  have := wgtAll_map (f := pairD) (k := 3) (xs := ps) fun _ _ => Nat.le_refl _
  show 1 + wgtAll (ps.map pairD) ≤ _
  omega
theorem dep_ints (ns : List Int) : (intsD ns).depth ≤ 2 := by
  have := depthAll_map (f := PyData.int) (k := 1) (xs := ns) fun _ _ => (by simp [PyData.depth])
  show PyData.depthAll (ns.map .int) + 1 ≤ 2
  omega
theorem dep_pairs (ps : List (Int × Int)) : (pairsD ps).depth ≤ 4 := by
  have := depthAll_map (f := pairD) (k := 3) (xs := ps) fun _ _ => (by simp [pairD, PyData.depth, PyData.depthAll])
  show PyData.depthAll (ps.map pairD) + 1 ≤ 4
  omega
theorem dp_ints {K : PySem.W.Frag} {H : Hp} {a : Addr} {ns : List Int} (h : SqT K H a (ns.map V.int)) : Dp K H (.ref a) (intsD ns) := .tup h (dpAll_ints ns)
theorem dp_pairs {K : PySem.W.Frag} {H : Hp} {a : Addr} {xs : List V} {ps : List (Int × Int)} (h : SqT K H a xs) (hp : PairsAt H xs ps) : Dp K H (.ref a) (pairsD ps) := by
  refine .tup h ?_
  have all : ∀ {xs : List V} {ps : List (Int × Int)}, PairsAt H xs ps → DpAll K H xs (ps.map pairD) := by
    intro xs ps h
    induction h with
    | nil => exact .nil
    | cons r t ih =>
      obtain ⟨t', e, q⟩ := r
      rw [e]
      exact .cons (.tup (SqT.of q) (.cons (.int _) (.cons (.int _) .nil))) ih
  exact all hp
end IdW
end
section
set_option maxRecDepth 100000
namespace IdW
open PySem PySem.Spec PyProof.Rows L2 IdR RZ Idle
section
variable {P : Program} {w : World} {K : PySem.W.Frag} {mg : Str → Option Value} {base : Heap}
/-- all that the law's turn calls -/
structure Calls (P : Program) (w : World) (K : PySem.W.Frag) (mg : Str → Option Value) (base : Heap) : Prop where
  lb : Cal P w K mg base 4 "_law_bundle" (spLB K)
  mp : Cal P w K mg base 2 "_law_most_pairs" (spMp K)
  great : Cal P w K mg base 10 "greatest_matching" (spGreat K)
  lm : Cal P w K mg base 2 "_law_is_matching" (spLM K)
  draw : Cal P w K mg base 2 "_law_draw" spDraw
  set : Cal P w K mg base 5 "setting_by" (spSet K)
  nu : Cal P w K mg base 3 "_law_numbers" (spNu K)
  more : Cal P w K mg base 6 "more_of" (spMoreIn K)
  lmore : Cal P w K mg base 2 "_law_more" (spMoreIn K)
  pap : Cal P w K mg base 10 "excess_paper" (spPap K)
  exc : Cal P w K mg base 10 "excess" (spExc K)
  chk : Cal P w K mg base 5 "check_excess" (spChk K)
abbrev sRight : Stmt := top 49
abbrev nRight : List Str := ["state", "bundle", "most", "pairs", "lesser", "some", "due", "again", "numbers", "paper", "pair", "number", "literal"]
theorem scRight : FnScope nRight ["state"] (defScope sRight) := ⟨rfl, rfl, rfl, by decide +kernel, rfl, by decide +kernel, by decide +kernel⟩
def spRight : Sp := fun vs H Q _ => ∃ (st l c : Addr) (N : Nat), vs = [.ref st] ∧ StI H st l c N ∧ N ≤ 70000 ∧ ∀ H', But [st, l] H H' → StI H' st l c (N + 1000) → Q (.bl true) H'
/-- what a turn of the law carries along -/
structure RS (K : PySem.W.Frag) (st l c b pr : Addr) (n : Int) (cs : List (List Int)) (xs : List V) (ps : List (Int × Int)) (H Hk : Hp) (M : Nat) : Prop where
  but : But [st, l] H Hk
  sta : StI Hk st l c M
  bun : Bun K Hk b n cs
  tp : TupP Hk pr xs
  pa : PairsAt Hk xs ps
section
variable {st l c b pr : Addr} {n : Int} {cs : List (List Int)} {xs : List V} {ps : List (Int × Int)} {H Hk H' : Hp} {M M' : Nat}
theorem RS.same (r : RS K st l c b pr n cs xs ps H Hk M) (s : Same Hk H') : RS K st l c b pr n cs xs ps H H' M := ⟨r.but.trans (But.of s), r.sta.same s, r.bun.same s, TupP.same s r.tp, PairsAt.same s r.pa⟩
theorem RS.step (r : RS K st l c b pr n cs xs ps H Hk M) (k : But [st, l] Hk H') (i : StI H' st l c M') : RS K st l c b pr n cs xs ps H H' M' :=
  let e := r.sta.ext k
  ⟨r.but.trans k, i, r.bun.ext e, TupP.ext e r.tp, PairsAt.ext e r.pa⟩
theorem RS.mono (r : RS K st l c b pr n cs xs ps H Hk M) (h : M ≤ M') : RS K st l c b pr n cs xs ps H Hk M' := ⟨r.but, r.sta.mono h, r.bun, r.tp, r.pa⟩
end
/-- a matching at v -/
def MatchAt (K : PySem.W.Frag) (H : Hp) (v : V) (qs : List (Int × Int)) : Prop := ∃ a ys, v = .ref a ∧ SqT K H a ys ∧ PairsAt H ys qs
theorem MatchAt.ext {H H' : Hp} {v : V} {qs : List (Int × Int)} (e : Ext H H') (h : MatchAt K H v qs) : MatchAt K H' v qs := let ⟨a, ys, z, h1, h2⟩ := h; ⟨a, ys, z, SqT.ext e h1, PairsAt.ext e h2⟩
theorem iteA {c : Bool} {A B : Prop} (h : c = true) (a : A) : if c = true then A else B := by
  rw [h]
  exact iteT a
theorem str_ne {d e : Str} (h : d = e) : (!decide (V.str d = V.str e)) = false := by rw [h, decide_eq_true rfl]; rfl
theorem ok_right (G : Glo mg) (C : Calls P w K mg base) {f : Addr} {fd : FuncData} (F : Fun K "_law_right" "_law_right" sRight f fd) : FnG P w K mg base 11 f fd ["state"] spRight := by
  refine fnG F scRight (fun vs H Q E h => ?_) (fun cdv A outer s H vs Q E hG hr h => ?_)
  · obtain ⟨st, l, c, N, rfl, _⟩ := h
    rfl
  obtain ⟨st, l, c, N, rfl, hS, hN, q⟩ := h
  have hu := hr.units
  refine ⟨_, pss_cons (ps_set (i := 1) scRight.nd rfl (.inl rfl) (pe_c C.lb hr (pa_cons (pv 0) (pa_cons pe_int (pa_cons pe_int pa_nil)))))
    (pss_cons (ps_par (i := 2) (j := 3) rfl scRight.nd rfl rfl (by decide) rfl rfl (pa_cons (pe_c C.mp hr (pa_cons (pv 1) pa_nil)) (pa_cons (pe_c C.great hr (pa_cons (pv 1) pa_nil)) pa_nil)) (by rfl))
    (pss_cons (ps_if (PW.pt (pw_or (pt_not (pt_val (pe_c C.lm hr (pa_cons (pv 1) (pa_cons (pv 3) pa_nil))))) (pw_or1 (pt_cmpR op_ne (pe_callB call_len_seq (by rfl) G.len b_len (pa_cons (pv 3) pa_nil)) (pv 2) (nomark _))))) (pss_one (ps_ret pe_bl)) pss_nil)
    (pss_cons (ps_set (i := 4) scRight.nd rfl (.inl rfl) (pe_callTy call_tuple_of (by rfl) G.tuple b_tuple (pa_cons
        (pe_lc (own := [("pair", 10)]) (g := gName 10) (tt := tTest (tOp rEq (tCall spDraw [] E0 (tCons (tVar 0) (tCons (L2.tC (.int 2)) tNil))) (L2.tC (.int 0)))) rfl scRight.nd (pi_tup (pv 3)) (blkOk_by (N := nRight) (sc := defScope sRight) (by decide +kernel))
          (fun _ _ _ _ _ => pg_name (i := 10) scRight.nd rfl (Or.inl rfl) (Or.inr rfl)) (fun _ _ _ _ _ => pts_one (pt_cmpR op_eq (pe_c C.draw hr (pa_cons (pv 0) (pa_cons pe_int pa_nil))) pe_int (nomark _))) (fun _ _ _ _ _ => pv 10)) pa_nil)))
    (pss_cons (ps_for PassesOwn.never rfl (pi_tup (pe_tup (pa_cons (pv 3) (pa_cons (pv 4) pa_nil)))) (pg_name (i := 5) scRight.nd rfl (.inl rfl))
      (pss_cons (ps_set (i := 6) scRight.nd rfl (.inl rfl) (pe_callTy call_tuple_of (by rfl) G.tuple b_tuple (pa_cons
        (pe_lc (own := [("pair", 10)]) (g := gName 10) (tt := tYes) rfl scRight.nd (pi_list (pe_callB cr_sortP (by rfl) G.sorted b_sorted (pa_cons
            (pe_lc (own := [("number", 11), ("literal", 12)]) (g := gTup K 2 (gCons (gName 11) (gCons (gName 12) gNil))) (tt := tYes) rfl scRight.nd (pi_tup (pv 5)) (blkOk_by (N := nRight) (sc := defScope sRight) (by decide +kernel))
              (fun _ _ _ _ _ => pg_tup rfl (pgs_cons (pg_name (i := 11) scRight.nd rfl (Or.inl rfl) (Or.inr rfl)) (pgs_cons (pg_name (i := 12) scRight.nd rfl (Or.inl rfl) (Or.inr rfl)) pgs_nil))) (fun _ _ _ _ _ => pts_nil)
              (fun _ _ _ _ _ => pe_tup (pa_cons (pe_callB call_abs (by rfl) G.abs b_abs (pa_cons (pv 12) pa_nil)) (pa_cons (pv 12) pa_nil)))) pa_nil)))
          (blkOk_by (N := nRight) (sc := defScope sRight) (by decide +kernel))
          (fun _ _ _ _ _ => pg_name (i := 10) scRight.nd rfl (Or.inl rfl) (Or.inr rfl)) (fun _ _ _ _ _ => pts_nil)
          (fun _ _ _ _ _ => pe_ix (ixt K) (pv 10) pe_int (fun _ _ => rfl))) pa_nil)))
      (pss_one (ps_if (pt_cmpR op_ne (pe_callB (call_reprT hG hu) (by rfl) G.repr b_repr (pa_cons (pe_lst (pa_cons (pe_c C.set hr (pa_cons (pv 1) (pa_cons (pv 5) pa_nil))) (pa_cons (pe_c C.set hr (pa_cons (pv 1) (pa_cons (pv 5) pa_nil))) pa_nil))) pa_nil))
          (pe_callB (call_reprT hG hu) (by rfl) G.repr b_repr (pa_cons (pe_lst (pa_cons (pv 6) (pa_cons (pv 6) pa_nil))) pa_nil)) (nomark _)) (pss_one (ps_ret pe_bl)) pss_nil))))
    (pss_cons (ps_for PassesOwn.never rfl (pi_range1 (by rfl) G.range (pa_cons pe_int pa_nil)) (pg_name (i := 7) scRight.nd rfl (.inl rfl))
      (pss_cons (ps_set (i := 8) scRight.nd rfl (.inl rfl) (pe_c C.nu hr (pa_cons (pv 0) (pa_cons (pv 1) pa_nil))))
      (pss_cons (ps_if (pt_cmpR op_ne (pe_callB SkE.call_repr_int (by rfl) G.repr b_repr (pa_cons (pe_c C.more hr (pa_cons (pv 1) (pa_cons (pv 8) pa_nil))) pa_nil))
          (pe_callB SkE.call_repr_int (by rfl) G.repr b_repr (pa_cons (pe_c C.lmore hr (pa_cons (pv 1) (pa_cons (pv 8) pa_nil))) pa_nil)) (nomark _)) (pss_one (ps_ret pe_bl)) pss_nil)
      (pss_one (ps_if (pt_cmpR op_gt (pe_c C.lmore hr (pa_cons (pv 1) (pa_cons (pv 8) pa_nil))) (pe_op op_sub (pe_callB call_len_seq (by rfl) G.len b_len (pa_cons (pe_ix ix_tup (pv 1) pe_int (fun _ _ => rfl)) pa_nil)) (pv 2)) (nomark _)) (pss_one (ps_ret pe_bl)) pss_nil)))))
    (pss_cons (ps_par (i := 6) (j := 9) rfl scRight.nd rfl rfl (by decide) rfl rfl (pa_cons (pe_op op_sub (pe_callB call_len_seq (by rfl) G.len b_len (pa_cons (pe_ix ix_tup (pv 1) pe_int (fun _ _ => rfl)) pa_nil)) (pv 2)) (pa_cons (pe_c C.pap hr (pa_cons (pv 1) pa_nil)) pa_nil)) (by rfl))
    (pss_cons (ps_if (pt_cmpR op_ne (pe_callB (call_reprT hG hu) (by rfl) G.repr b_repr (pa_cons (pe_lst (pa_cons (pe_c C.pap hr (pa_cons (pv 1) pa_nil)) (pa_cons (pe_c C.great hr (pa_cons (pv 1) pa_nil)) pa_nil))) pa_nil))
          (pe_callB (call_reprT hG hu) (by rfl) G.repr b_repr (pa_cons (pe_lst (pa_cons (pv 9) (pa_cons (pv 3) pa_nil))) pa_nil)) (nomark _)) (pss_one (ps_ret pe_bl)) pss_nil)
    (pss_cons (ps_if (pt_cmpR op_ne (pe_callB (call_reprT hG hu) (by rfl) G.repr b_repr (pa_cons (pe_lst (pa_cons (pe_c C.exc hr (pa_cons (pv 1) pa_nil)) (pa_cons (pe_c C.exc hr (pa_cons (pv 1) pa_nil)) (pa_cons (pe_c C.chk hr (pa_cons (pv 1) (pa_cons (pv 9) pa_nil))) pa_nil)))) pa_nil))
          (pe_callB (call_reprT hG hu) (by rfl) G.repr b_repr (pa_cons (pe_op op_rep (pe_lst (pa_cons (pv 6) pa_nil)) pe_int) pa_nil)) (nomark _)) (pss_one (ps_ret pe_bl)) pss_nil)
    (pss_one (ps_ret (pe_and (pe_c C.lm hr (pa_cons (pv 1) (pa_cons (pe_ix ix_tup (pv 9) pe_int (fun _ _ => rfl)) pa_nil)))
      (pe_and (pe_cmpR op_eq (pe_callB call_len_seq (by rfl) G.len b_len (pa_cons (pe_ix ix_tup (pv 9) pe_int (fun _ _ => rfl)) pa_nil)) (pv 2) (nomark _))
        (pe_one (pe_cmpR op_eq (pe_c C.lmore hr (pa_cons (pv 1) (pa_cons (pe_ix ix_tup (pv 9) pe_int (fun _ _ => rfl)) pa_nil))) (pv 6) (nomark _))))))))))))))), ?_⟩
  refine ⟨_, rfl, st, l, c, N, 5, 7, rfl, hS, by omega, by omega, by omega, by omega, by omega, fun H1 b n cs b1 i1 hB hg n5 => ?_⟩
  refine ⟨_, rfl, b, n, cs, rfl, hB, hg, n5, fun H2 s2 => ⟨_, rfl, b, n, cs, rfl, hB.same s2, hg, fun H3 pr xs ps s3 pm sr tp pa => ⟨_, _, rfl, ?_⟩⟩⟩
  have hm := goodM_of hg pm sr
  have lp := match_len pm
  have lx : xs.length = ps.length := Paired.length pa
  have lp7 := hm.len hg
  have r3 : RS K st l c b pr n cs xs ps H H3 (N + 300) := ⟨b1.trans (But.of (s2.trans s3)), i1.same (s2.trans s3), (hB.same s2).same s3, tp, pa⟩
  clear tp pa hB i1 b1 s2 s3
  generalize hnB : (tiesB n cs).length = nB at lp
  refine ⟨_, rfl, _, rfl, b, pr, n, cs, xs, ps, rfl, r3.bun, hg, r3.tp, r3.pa, hm, fun H4 s4 => ⟨_, rfl, iteF ?_⟩⟩
  have r4 := r3.same s4
  refine ⟨_, rfl, pr, _, rfl, .inr (TupP.sq r4.tp), _, rfl, rfl, _, rfl, iteB ?_ ?_⟩
  · show (!decide (V.int ((xs.length : Nat) : Int) = V.int ((nB : Nat) : Int))) = false
    rw [lx, lp, decide_eq_true rfl]
    rfl
  clear r3 s4
  refine ⟨_, rfl, pr, rfl, ⟨_, (TupP.sq r4.tp)⟩, fun D hD => ?_⟩
  have ap := r4.sta.apart hD
  refine lc_y (y_pairs (K := K) (a := pr) (xs := xs) (ps := ps)) (fun done H5 => RS K st l c b pr n cs xs ps H H5 (N + 300 + done.length) ∧ ∃ acc qs, H5 D = some (.lst acc) ∧ PairsAt H5 acc qs ∧ qs.Sublist done)
    ⟨(r4.same (same_new _ hD)).mono (by simp), [], [], upd_same, .nil, List.Sublist.refl _⟩ (fun _ _ H5 _ p => ⟨TupP.sq p.1.tp, p.1.pa⟩) (fun done p rest x H5 H6 e p0 s hx => ?_) fun H5 p => ?_
  · obtain ⟨p1, acc, qs, p2, p3, p4⟩ := p0
    have p1' := p1.same s
    have hdl : ps.length = done.length + (rest.length + 1) := by rw [e, List.length_append, List.length_cons]
    refine ⟨rfl, _, rfl, st, l, c, _, 2, rfl, p1'.sta, by omega, by omega, by omega, fun H7 v b7 i7 v0 v1 => ⟨rfl, _, rfl, ?_⟩⟩
    have D7 := p1'.sta.keeps b7 (s _ _ p2) ap.st ap.l
    have e7 := p1'.sta.ext b7
    have r7 := p1'.step b7 i7
    have pa7 := PairsAt.ext ((Ext.of s).trans e7) p3
    refine ite2 (fun _ => ?_) fun _ => ?_
    · have lq : acc.length = qs.length := Paired.length p3
      have lq2 := p4.length_le
      have ex : Ext H7 (upd H7 D (.lst (acc ++ [x]))) := Ext.upd (mutL D7)
      refine ⟨_, rfl, acc, D7, small1000 (by omega), ⟨?_, r7.sta.upd ap |>.mono (by rw [List.length_append, List.length_singleton]; omega), r7.bun.ext ex, TupP.ext ex r7.tp, PairsAt.ext ex r7.pa⟩, acc ++ [x], qs ++ [p], upd_same, pairs_snoc (PairsAt.ext ex pa7) (PairAt.ext (e7.trans ex) hx), p4.append (List.Sublist.refl _)⟩
      intro y o hy eo
      rw [upd_ne (ne_of_none (r4.but y o hy eo) hD)]
      exact r7.but y o hy eo
    · exact ⟨r7.mono (by rw [List.length_append, List.length_singleton]; omega), acc, qs, D7, pa7, p4.trans (List.sublist_append_left _ _)⟩
  obtain ⟨r5, acc, qs, e5, pq5, sb⟩ := p
  refine ⟨D, _, rfl, .inl ⟨SqL.of e5, fun t ht => ?_⟩⟩
  have s6 := same_new (.tup acc) ht
  have mt6 : MatchAt K (upd H5 t (.tup acc)) (.ref t) qs := ⟨t, acc, rfl, SqT.of upd_same, PairsAt.same s6 pq5⟩
  have r6 := (r5.same s6).mono (M' := N + 400) (by omega)
  generalize upd H5 t (.tup acc) = H6 at mt6 r6
  clear s6 ht r5 e5 pq5 ap hD r4
  refine ⟨_, rfl, _, rfl, (by show 2 ≤ sizeLine; decide), fun T hT => ?_⟩
  have s7 := same_new (.tup [V.ref pr, V.ref t]) hT
  refine ⟨T, rfl, ⟨_, SqT.of upd_same⟩, ?_⟩
  have r7 := r6.same s7
  refine for_y ((y_tup (K := K) (a := T) (xs := [V.ref pr, V.ref t])).paired (R := MatchAt K) (bs := [ps, qs]) fun H H' v b s r => r.ext (Ext.of s))
    (fun done σ H8 => RS K st l c b pr n cs xs ps H H8 (N + 400) ∧ (SqT K H8 T [V.ref pr, V.ref t] ∧ Paired (MatchAt K H8) [V.ref pr, V.ref t] [ps, qs]) ∧ ∃ u5 u6, σ = [some (V.ref st), some (V.ref b), some (V.int ((nB : Nat) : Int)), some (V.ref pr), some (V.ref t), u5, u6, none, none, none, none, none, none])
    ⟨r7, ⟨SqT.of upd_same, .cons ⟨pr, xs, rfl, TupP.sq r7.tp, r7.pa⟩ (.cons (mt6.ext (Ext.of s7)) .nil)⟩, none, none, rfl⟩ (fun _ _ σ H8 _ p => p.2.1) (fun done ms rest x σ H8 H9 e p s hx => ?_) fun σ H8 p => ?_
  · obtain ⟨p1, ⟨p2, p3⟩, u5, u6, rfl⟩ := p
    obtain ⟨a, ys, rfl, hsq, hpa⟩ := hx
    have r9 := p1.same s
    have gm : GoodM cs ms := by
      have : ms ∈ [ps, qs] := by rw [e]; simp
      rcases List.mem_cons.mp this with z | z
      · rw [z]; exact hm
      · rw [List.mem_singleton.mp z]; exact hm.sub sb
    have lm := gm.len hg
    refine ⟨_, rfl, a, rfl, ⟨_, hsq⟩, fun D1 hD1 => ?_⟩
    refine lc_rel (y_pairs (K := K) (a := a) (xs := ys) (ps := ms)) hD1 (fun H10 s10 => ⟨Same.tup s10 hsq, PairsAt.same s10 hpa⟩) (fun _ => true) (by omega) (fun p v H => PairAt H v (ab p.2, p.2)) (fun p v H H' acc e q k => pair_keeps e (fun _ z => by cases z) q k) (fun p x H10 hmem s10 hx R R' hR _ => ?_) fun H10 acc1 s10 e10 pr10 => ?_
    · obtain ⟨T1, rfl, hT1⟩ := hx
      refine ⟨T1, _, rfl, SqT.of hT1, rfl, _, _, rfl, _, _, rfl, rfl, rfl, yes ⟨_, rfl, p.2, rfl, _, rfl, by show 2 ≤ sizeLine; decide, fun T2 hT2 => ?_⟩⟩
      exact hR rfl _ _ ⟨T2, rfl, upd_same⟩ (same_new _ hT2)
    have ef : ms.filter (fun _ => true) = ms := List.filter_eq_self.mpr fun _ _ => rfl
    rw [ef] at pr10
    have pa10 : PairsAt H10 acc1 (pairsOf (ms.map (·.2))) := by
      have all : ∀ {ms : List (Int × Int)} {acc : List V}, Paired (fun p v => PairAt H10 v (ab p.2, p.2)) ms acc → PairsAt H10 acc (pairsOf (ms.map (·.2))) := by
        intro ms acc h
        induction h with
        | nil => exact .nil
        | cons r t ih => exact .cons r ih
      exact all pr10
    refine ⟨D1, acc1, pairsOf (ms.map (·.2)), rfl, SqL.of e10, pa10, fun zs r qs2 hp2 hs2 hz2 hn2 => ?_⟩
    have s11 := same_new (.lst zs) hn2
    have lq2 : qs2.length ≤ 7 := by
      rw [hp2.length_eq]
      unfold pairsOf
      rw [List.length_map, List.length_map]
      exact lm
    refine ⟨r, rfl, ⟨_, SqL.of upd_same⟩, fun D2 hD2 => ?_⟩
    refine lc_map ((y_list (K := K) (a := r) (xs := zs)).paired (R := PairAt) (bs := qs2) fun H H' v b s r => PairAt.ext (Ext.of s) r) hD2 (fun H12 s12 => ⟨s12.seq (SqL.of upd_same), PairsAt.same (s11.trans s12) hz2⟩) (fun r => .int r.2) (by omega) (fun r x H12 hm s12 hx R R' hR => ?_) fun H12 s12 e12 => ?_
    · obtain ⟨t1, rfl, ht1⟩ := hx
      exact ⟨rfl, yes ⟨_, rfl, t1, _, _, _, rfl, rfl, SqT.of ht1, atI_nat (xs := [V.int r.1, V.int r.2]) (j := 1) rfl, hR H12 (Same.refl _)⟩⟩
    refine ⟨D2, _, rfl, .inl ⟨SqL.of e12, fun du hdu => ?_⟩⟩
    have s13 := same_new (.tup (qs2.map fun r => V.int r.2)) hdu
    have e13 : (upd H12 du (.tup (qs2.map fun r => V.int r.2))) du = some (.tup ((qs2.map (·.2)).map V.int)) := by rw [upd_same, List.map_map]; rfl
    have sF := ((s10.trans s11).trans s12).trans s13
    generalize upd H12 du (.tup (qs2.map fun r => V.int r.2)) = H13 at e13 sF
    have r13 := r9.same sF
    have hsq13 := Same.tup sF hsq
    have hpa13 := PairsAt.same sF hpa
    refine ⟨_, rfl, _, rfl, b, a, n, cs, ys, ms, rfl, r13.bun, hg, hsq13, hpa13, gm, fun H14 q1 qs3 s14 pm3 sr3 e14 => ?_⟩
    refine ⟨_, rfl, _, rfl, b, a, n, cs, ys, ms, rfl, r13.bun.same s14, hg, Same.tup s14 hsq13, PairsAt.same s14 hpa13, gm, fun H15 q2 qs4 s15 pm4 sr4 e15 => ?_⟩
    have z3 : qs3 = qs2 := leP_one sr3 hs2 (pm3.trans hp2.symm)
    have z4 : qs4 = qs2 := leP_one sr4 hs2 (pm4.trans hp2.symm)
    subst z3
    subst z4
    refine ⟨(by show 2 ≤ sizeLine; decide), fun L hL => ?_⟩
    have s16 := same_new (.lst [V.ref q1, V.ref q2]) hL
    have lits : ∀ i ∈ qs4.map (·.2), -20 ≤ i ∧ i ≤ 20 := fun i hi => by
      obtain ⟨p, hp, ep⟩ := List.mem_map.mp hi
      obtain ⟨lt, hlt, elt⟩ := List.mem_map.mp (pm4.mem_iff.mp hp)
      obtain ⟨p0, hp0, ep0⟩ := List.mem_map.mp hlt
      have h1 := gm.lit1 hg p0 hp0
      have h7 := hg.n7
      have : i = p0.2 := by rw [← ep, ← elt, ← ep0]
      rw [this]
      unfold ab at h1
      split at h1 <;> omega
    obtain ⟨dd, hdd⟩ : ∃ dd : PyData, dd = .list [intsD (qs4.map (·.2)), intsD (qs4.map (·.2))] := ⟨_, rfl⟩
    have tn : tiny dd = true := by
      rw [hdd]
      show (tiny (intsD (qs4.map (·.2))) && (tiny (intsD (qs4.map (·.2))) && true)) = true
      rw [tiny_ints lits]
      rfl
    have dpt : dd.depth ≤ 50 := by
      have := dep_ints (qs4.map (·.2))
      rw [hdd]
      simp only [PyData.depth, PyData.depthAll]
      omega
    have wg : wgt dd ≤ 1000 := by
      have := wgt_ints (qs4.map (·.2))
      rw [List.length_map] at this
      rw [hdd]
      show 1 + (wgt (intsD (qs4.map (·.2))) + (wgt (intsD (qs4.map (·.2))) + 0)) ≤ 1000
      omega
    have d1 : ∀ {Hx : Hp} {x : Addr}, Hx x = some (.tup (qs4.map fun q => V.int q.2)) → Dp K Hx (.ref x) (intsD (qs4.map (·.2))) := fun {Hx x} h => dp_ints (SqT.of (by rw [h, List.map_map]; rfl))
    have e15' := s16 _ _ e15
    have e14' := s16 _ _ (s15 _ _ e14)
    refine ⟨L, dd, rfl, by rw [hdd]; exact .lst (SqL.of upd_same) (.cons (d1 e14') (.cons (d1 e15') .nil)), tn, dpt, wg, ?_⟩
    refine ⟨_, rfl, _, rfl, (by show 2 ≤ sizeLine; decide), fun Lb hLb => ?_⟩
    have s17 := same_new (.lst [V.ref du, V.ref du]) hLb
    have e17 : (upd (upd H15 L (.lst [V.ref q1, V.ref q2])) Lb (.lst [V.ref du, V.ref du])) du = some (.tup ((qs4.map (·.2)).map V.int)) := s17 _ _ (s16 _ _ (s15 _ _ (s14 _ _ e13)))
    refine ⟨Lb, dd, rfl, by rw [hdd]; exact .lst (SqL.of upd_same) (.cons (dp_ints (SqT.of e17)) (.cons (dp_ints (SqT.of e17)) .nil)), tn, dpt, wg, ?_⟩
    have sEnd := (((s.trans sF).trans s14).trans s15).trans (s16.trans s17)
    refine ⟨rfl, _, rfl, iteB (str_ne rfl) ⟨p1.same sEnd, ⟨Same.tup sEnd p2, L2.Paired.mapP p3 fun _ _ r => r.ext (Ext.of sEnd)⟩, _, _, rfl⟩⟩
  obtain ⟨r8, _, u5, u6, rfl⟩ := p
  clear mt6 r7 s7 r6
  refine ⟨3, rfl, by decide, by decide, ?_⟩
  refine for_y (y_rng (lo := 0) (n := Int.toNat 3)) (fun done σ H9 => RS K st l c b pr n cs xs ps H H9 (N + 400 + 20 * done.length) ∧ ∃ u5 u6 u7 u8, σ = [some (V.ref st), some (V.ref b), some (V.int ((nB : Nat) : Int)), some (V.ref pr), some (V.ref t), u5, u6, u7, u8, none, none, none, none])
    ⟨r8, _, _, _, _, rfl⟩ (fun _ _ _ _ _ _ => True.intro) (fun done a rest x σ H9 H10 e p s hx => ?_) fun σ H9 p => ?_
  · subst hx
    obtain ⟨p1, u5, u6, u7, u8, rfl⟩ := p
    have r10 := p1.same s
    have hdl : done.length ≤ 3 := by
      have := congrArg List.length e
      rw [List.length_range, List.length_append, List.length_cons] at this
      show done.length ≤ Int.toNat 3
      omega
    refine ⟨_, rfl, _, rfl, st, l, c, _, b, n, cs, rfl, r10.sta, by omega, r10.bun, hg, fun H11 nu ns b11 i11 e11 gn => ?_⟩
    have r11 := r10.step b11 i11
    have ln := gn.len hg
    refine ⟨_, rfl, _, rfl, b, nu, n, cs, ns, rfl, r11.bun, hg, SqT.of e11, gn, fun H12 nm s12 hnm => ?_⟩
    have r12 := r11.same s12
    have lnm := names_len hg gn hnm
    refine ⟨_, rfl, (int_len _ (by omega) (by omega)).2, ?_⟩
    refine ⟨_, rfl, _, rfl, b, nu, n, cs, ns, rfl, r12.bun, hg, SqT.of (s12 _ _ e11), gn, fun H13 nm2 s13 hnm2 => ?_⟩
    have r13 := r12.same s13
    have z := names_one hnm2 hnm
    subst z
    refine ⟨_, rfl, (int_len _ (by omega) (by omega)).2, rfl, _, rfl, iteB (str_ne rfl) ?_⟩
    refine ⟨_, rfl, _, rfl, b, nu, n, cs, ns, rfl, r13.bun, hg, SqT.of (s13 _ _ (s12 _ _ e11)), gn, fun H14 nm3 s14 hnm3 => ?_⟩
    have r14 := r13.same s14
    obtain ⟨c1, ys, a1, a2, hl⟩ := r14.bun.parts
    have mf := more_few hg gn hnm3
    rw [hnB] at mf
    refine ⟨_, rfl, b, _, _, _, rfl, rfl, a1, atI_nat (xs := [V.int n, V.ref c1]) (j := 1) rfl, c1, _, rfl, .inr a2, _, rfl, _, _, rfl, rfl, _, _, rfl, rfl, _, rfl, iteB (decide_eq_false ?_) ⟨r14.mono ?_, _, _, _, _, rfl⟩⟩
    · rw [hl]
      omega
    · rw [List.length_append, List.length_singleton]
      omega
  obtain ⟨p1, u5, u6, u7, u8, rfl⟩ := p
  have r9 := p1.mono (M' := N + 500) (by rw [List.length_range]; show _ + 20 * 3 ≤ _; omega)
  clear p1 r8
  obtain ⟨c1, ys, a1, a2, hl⟩ := r9.bun.parts
  refine ⟨_, rfl, b, _, _, _, rfl, rfl, a1, atI_nat (xs := [V.int n, V.ref c1]) (j := 1) rfl, c1, _, rfl, .inr a2, _, rfl, _, _, rfl, rfl, ?_⟩
  refine ⟨_, rfl, b, n, cs, rfl, r9.bun, hg, fun H10 p pr2 nu2 xs2 ps2 ns2 s10 e10 tp2 pa2 pm2 sr2 en2 rn2 => ⟨_, _, rfl, ?_⟩⟩
  have zps : ps2 = ps := leP_one sr2 sr (pm2.trans pm.symm)
  subst zps
  have gn2 := reach_good hg rn2
  have ln2 := gn2.len hg
  have r10 := r9.same s10
  have hcs := hg.len
  have tiP : tiny (pairsD ps2) = true := tiny_pairs fun q hq => by
    have h1 := hm.num q hq
    have h2 := hm.lit1 hg q hq
    have h7 := hg.n7
    refine ⟨by omega, ?_⟩
    unfold ab at h2
    split at h2 <;> omega
  have tiN : tiny (intsD ns2) = true := tiny_ints fun i hi => by
    have := gn2.num i hi
    omega
  have wP := wgt_pairs ps2
  have wN := wgt_ints ns2
  have dP := dep_pairs ps2
  have dN := dep_ints ns2
  have two : 2 ≤ sizeLine := by decide
  refine ⟨_, rfl, b, n, cs, rfl, r10.bun, hg, fun H11 p3 pr3 nu3 xs3 ps3 ns3 s11 e11 tp3 pa3 pm3 sr3 en3 rn3 => ?_⟩
  refine ⟨_, rfl, b, n, cs, rfl, r10.bun.same s11, hg, fun H12 pr4 xs4 ps4 s12 pm4 sr4 tp4 pa4 => ⟨two, fun L hL => ?_⟩⟩
  have z3 : ps3 = ps2 := leP_one sr3 sr (pm3.trans pm.symm)
  have z4 : ps4 = ps2 := leP_one sr4 sr (pm4.trans pm.symm)
  have z5 : ns3 = ns2 := reach_one rn3 rn2
  subst z3
  subst z4
  subst z5
  have s13 := same_new (.lst [V.ref p3, V.ref pr4]) hL
  have s1113 := s12.trans s13
  obtain ⟨dd, hdd⟩ : ∃ dd : PyData, dd = .list [.tuple [pairsD ps4, intsD ns3], pairsD ps4] := ⟨_, rfl⟩
  have tn : tiny dd = true := by
    rw [hdd]
    show ((tiny (pairsD ps4) && (tiny (intsD ns3) && true)) && (tiny (pairsD ps4) && true)) = true
    rw [tiP, tiN]
    rfl
  have dpt : dd.depth ≤ 50 := by
    rw [hdd]
    simp only [PyData.depth, PyData.depthAll]
    omega
  have wg : wgt dd ≤ 1000 := by
    rw [hdd]
    show 1 + ((1 + (wgt (pairsD ps4) + (wgt (intsD ns3) + 0))) + (wgt (pairsD ps4) + 0)) ≤ 1000
    omega
  refine ⟨L, dd, rfl, ?_, tn, dpt, wg, ?_⟩
  · rw [hdd]
    exact .lst (SqL.of upd_same) (.cons (.tup (SqT.of (s1113 _ _ e11)) (.cons (dp_pairs (TupP.sq (TupP.same s1113 tp3)) (PairsAt.same s1113 pa3)) (.cons (dp_ints (SqT.of (s1113 _ _ en3))) .nil))) (.cons (dp_pairs (TupP.sq (TupP.same s13 tp4)) (PairsAt.same s13 pa4)) .nil))
  have r13 := r10.same (s11.trans s1113)
  have x13 := s11.trans s1113
  refine ⟨_, rfl, _, rfl, two, fun Lb hLb => ?_⟩
  have s14 := same_new (.lst [V.ref p, V.ref pr]) hLb
  have x14 := x13.trans s14
  have r14 := r13.same s14
  have en14 := x14 _ _ en2
  have e14 := x14 _ _ e10
  have tp14 := TupP.same x14 tp2
  have pa14 := PairsAt.same x14 pa2
  refine ⟨Lb, dd, rfl, ?_, tn, dpt, wg, ?_⟩
  · rw [hdd]
    exact .lst (SqL.of upd_same) (.cons (.tup (SqT.of e14) (.cons (dp_pairs (TupP.sq tp14) pa14) (.cons (dp_ints (SqT.of en14)) .nil))) (.cons (dp_pairs (TupP.sq r14.tp) r14.pa) .nil))
  refine ⟨rfl, _, rfl, iteB (str_ne rfl) ?_⟩
  clear tn dpt wg hdd r13 x13 s1113 r10 s14 s13
  generalize upd (upd H12 L (.lst [V.ref p3, V.ref pr4])) Lb (.lst [V.ref p, V.ref pr]) = H14 at r14 e14 tp14 pa14 en14
  have he : ∀ nm, NamesAre cs ns3 nm → (cs.length : Int) - (ps4.length : Int) = (ns3.length : Int) - (nm.length : Int) := fun nm h => by
    have := more_just hg rn3 h
    omega
  refine ⟨_, rfl, b, n, cs, rfl, r14.bun, hg, fun H15 s15 => ?_⟩
  refine ⟨_, rfl, b, n, cs, rfl, r14.bun.same s15, hg, fun H16 s16 => ?_⟩
  have x16 := s15.trans s16
  refine ⟨_, rfl, _, rfl, b, p, pr2, nu2, n, cs, xs2, ps4, ns3, rfl, r14.bun.same x16, hg, SqT.of (x16 _ _ e14), TupP.sq (TupP.same x16 tp14), PairsAt.same x16 pa14, hm, SqT.of (x16 _ _ en14), gn2, he, fun H17 s17 => ⟨(by show 3 ≤ sizeLine; decide), fun Lc hLc => ?_⟩⟩
  obtain ⟨dn, hdn⟩ : ∃ dn : Int, dn = (cs.length : Int) - (nB : Int) := ⟨_, rfl⟩
  have lB : nB ≤ cs.length := by
    have := len_le (ys := upto cs.length) (asc_nodup hm.asc) fun x hx => by
      obtain ⟨p, hp, ep⟩ := List.mem_map.mp hx
      rw [← ep]
      exact mem_upto.mpr (hm.num p hp)
    rw [List.length_map, upto_len] at this
    omega
  have v1 : (cs.length : Int) - ((tiesB n cs).length : Int) = dn := by rw [hnB, hdn]
  have v2 : (cs.length : Int) - (ps4.length : Int) = dn := by rw [lp, hdn]
  have tiD : tiny (.int dn) = true := tiny_int (by omega)
  obtain ⟨de, hde⟩ : ∃ de : PyData, de = .list [.int dn, .int dn, .int dn] := ⟨_, rfl⟩
  have tn3 : tiny de = true := by
    rw [hde]
    show (tiny (.int dn) && (tiny (.int dn) && (tiny (.int dn) && true))) = true
    rw [tiD]
    rfl
  have dpt3 : de.depth ≤ 50 := by
    rw [hde]
    simp [PyData.depth, PyData.depthAll]
  have wg3 : wgt de ≤ 1000 := by
    rw [hde]
    show 1 + (1 + (1 + (1 + 0))) ≤ 1000
    omega
  have three : DpAll K (upd H17 Lc (.lst [V.int ((cs.length : Int) - ((tiesB n cs).length : Int)), V.int ((cs.length : Int) - ((tiesB n cs).length : Int)), V.int ((cs.length : Int) - (ps4.length : Int))])) [V.int dn, V.int dn, V.int dn] [.int dn, .int dn, .int dn] := .cons (.int _) (.cons (.int _) (.cons (.int _) .nil))
  refine ⟨Lc, de, rfl, by rw [hde]; exact .lst (SqL.of (by rw [upd_same, v1, v2])) three, tn3, dpt3, wg3, ?_⟩
  have s18 := same_new (.lst [V.int ((cs.length : Int) - ((tiesB n cs).length : Int)), V.int ((cs.length : Int) - ((tiesB n cs).length : Int)), V.int ((cs.length : Int) - (ps4.length : Int))]) hLc
  have x18 := x16.trans (s17.trans s18)
  generalize upd H17 Lc (.lst [V.int ((cs.length : Int) - ((tiesB n cs).length : Int)), V.int ((cs.length : Int) - ((tiesB n cs).length : Int)), V.int ((cs.length : Int) - (ps4.length : Int))]) = H18 at x18
  have v3 : ((ys.length : Nat) : Int) - ((nB : Nat) : Int) = dn := by rw [hl, hdn]
  refine ⟨_, rfl, (by show 1 ≤ sizeLine; decide), fun Ld hLd => ?_⟩
  have s19 := same_new (.lst [V.int (((ys.length : Nat) : Int) - ((nB : Nat) : Int))]) hLd
  refine ⟨Ld, 3, _, rfl, rfl, upd_same, by decide, by decide, Nat.le_trans (show _ ≤ 3 from Nat.le_refl _) (by decide), fun Le hLe => ?_⟩
  refine ⟨Le, de, rfl, ?_, tn3, dpt3, wg3, ?_⟩
  · rw [hde]
    refine .lst (SqL.of ?_) (.cons (.int dn) (.cons (.int dn) (.cons (.int dn) .nil)))
    rw [upd_same]
    show some (HO.lst [V.int (((ys.length : Nat) : Int) - ((nB : Nat) : Int)), V.int (((ys.length : Nat) : Int) - ((nB : Nat) : Int)), V.int (((ys.length : Nat) : Int) - ((nB : Nat) : Int))]) = _
    rw [v3]
  refine ⟨rfl, _, rfl, iteB (str_ne rfl) ?_⟩
  have x20 := x18.trans (s19.trans (same_new (.lst (List.replicate (Int.toNat 3) [V.int (((ys.length : Nat) : Int) - ((nB : Nat) : Int))]).flatten) hLe))
  have r20 := r14.same x20
  have e20 := x20 _ _ e14
  have tp20 := TupP.same x20 tp14
  have pa20 := PairsAt.same x20 pa14
  have en20 := x20 _ _ en14
  have lx2 : xs2.length = ps4.length := Paired.length pa2
  refine ⟨_, rfl, _, rfl, p, _, _, _, rfl, rfl, SqT.of e20, atI_nat (xs := [V.ref pr2, V.ref nu2]) (j := 0) rfl, b, pr2, n, cs, xs2, ps4, rfl, r20.bun, hg, tp20, pa20, hm, fun H21 s21 => ⟨_, rfl, iteT ?_⟩⟩
  refine ⟨_, rfl, p, _, _, _, rfl, rfl, SqT.of (s21 _ _ e20), atI_nat (xs := [V.ref pr2, V.ref nu2]) (j := 0) rfl, pr2, _, rfl, .inr (TupP.sq (TupP.same s21 tp20)), _, rfl, rfl, _, rfl, iteA ?_ ?_⟩
  · show decide (V.int ((xs2.length : Nat) : Int) = V.int ((nB : Nat) : Int)) = true
    rw [lx2, lp]
    exact decide_eq_true rfl
  refine ⟨_, rfl, _, rfl, p, _, _, _, rfl, rfl, SqT.of (s21 _ _ e20), atI_nat (xs := [V.ref pr2, V.ref nu2]) (j := 1) rfl, b, nu2, n, cs, ns3, rfl, r20.bun.same s21, hg, SqT.of (s21 _ _ en20), gn2, fun H22 nm s22 hnm => ⟨_, rfl, rfl, ?_⟩⟩
  have rE := (r20.same s21).same s22
  refine qbl ?_ (q H22 rE.but (rE.sta.mono (by omega)))
  have hx := he nm hnm
  show V.int ((ns3.length : Int) - (nm.length : Int)) = V.int (((ys.length : Nat) : Int) - ((nB : Nat) : Int))
  rw [← hx, v2, v3]
end
end IdW
end
section
set_option maxRecDepth 100000
namespace IdW
open PySem PySem.Spec PyProof.Rows L2 IdR RZ Idle
theorem named_flat (cs : List (List Int)) (x : Int) : Named cs x ↔ x ∈ cs.flatten.map ab := by
  rw [List.mem_map]
  constructor
  · rintro ⟨c, hc, l, hl, e⟩
    exact ⟨l, List.mem_flatten.mpr ⟨c, hc, hl⟩, e⟩
  · rintro ⟨l, hl, e⟩
    obtain ⟨c, hc, hl⟩ := List.mem_flatten.mp hl
    exact ⟨c, hc, l, hl, e⟩
def csA : List (List Int) := [[-3], [-2, 3], [-1, 2], [1], [1, 2], [2, 3]]
theorem goodA : GoodB 3 csA := ⟨by decide, by decide, by decide, by unfold GoodC; decide, by decide⟩
theorem tiesA : (tiesB 3 csA).length = 3 := by decide +kernel
def csB : List (List Int) := [[], [1]]
theorem goodB : GoodB 2 csB := ⟨by decide, by decide, by decide, by unfold GoodC; decide, by decide⟩
theorem tiesBB : (tiesB 2 csB).length = 1 := by decide +kernel
theorem matchBB : matchB 2 csB = [(1, 1)] := by decide +kernel
theorem goodE : GoodB 1 [] := ⟨by decide, by decide, by decide, (fun c hc => (by cases hc)), List.Pairwise.nil⟩
theorem tiesE : (tiesB 1 []).length = 0 := by decide +kernel
theorem names3 {ns nm : List Int} (h : NamesAre csA ns nm) (h3 : ∀ x, x ∈ ((ns.map (row csA)).flatten.map ab) ↔ x ∈ [1, 2, 3]) : nm = [1, 2, 3] :=
  asc_ext h.1 (by decide) fun z => (h.2 z).trans ((named_flat _ z).trans (h3 z))
theorem matchA : GoodM csA [(2, 2), (5, 3)] := ⟨by decide, by decide, by decide, by decide⟩
theorem matchC : GoodM csA [(0, -3), (2, 2), (3, 1)] := ⟨by decide, by decide, by decide, by decide⟩
theorem same_at {H : Hp} {p : Addr} {o : HO} (_ : Same H (upd H p o)) : (upd H p o) p = some o := upd_same
section
variable {P : Program} {w : World} {K : PySem.W.Frag} {mg : Str → Option Value} {base : Heap}
abbrev sLaw : Stmt := top 50
abbrev nLaw : List Str := ["script", "state", "turn", "bundle", "paper"]
theorem scLaw : FnScope nLaw ["script"] (defScope sLaw) := ⟨rfl, rfl, rfl, by decide +kernel, rfl, by decide +kernel, by decide +kernel⟩
def spLaw (K : PySem.W.Frag) : Sp := fun vs H Q _ => ∃ (a : Addr) (ns : List Int), vs = [.ref a] ∧ SqL K H a (ns.map V.int) ∧ ns.length ≤ 63 ∧ ∀ H', Q (.bl true) H'
theorem ok_law (G : Glo mg) (C : Calls P w K mg base) (cB : Cal P w K mg base 1 "_law_begin" (spBegin K)) (cR : CalG P w K mg base 11 "_law_right" spRight) {f : Addr} {fd : FuncData} (F : Fun K "law" "law" sLaw f fd) : FnG P w K mg base 12 f fd ["script"] (spLaw K) := by
  refine fnG F scLaw (fun vs H Q E h => ?_) (fun cdv A outer s H vs Q E hG hr h => ?_)
  · obtain ⟨a, ns, rfl, _⟩ := h
    rfl
  obtain ⟨a, ns, rfl, ha, hz, q⟩ := h
  have hu := hr.units
  refine ⟨_, pss_cons (ps_set (i := 1) scLaw.nd rfl (.inl rfl) (pe_c cB hr (pa_cons (pv 0) pa_nil)))
    (pss_cons (ps_for PassesOwn.never rfl (pi_range1 (by rfl) G.range (pa_cons (pe_op op_add pe_int (pe_callB (call_min2 rfl) (by rfl) G.min b_min (pa_cons (pe_callB call_len_seq (by rfl) G.len b_len (pa_cons (pv 0) pa_nil)) (pa_cons pe_int pa_nil)))) pa_nil)) (pg_name (i := 2) scLaw.nd rfl (.inl rfl))
      (pss_one (ps_if (pt_not (pt_val (pe_cG cR hG hr (pa_cons (pv 1) pa_nil)))) (pss_one (ps_ret pe_bl)) pss_nil)))
    (pss_cons (ps_set (i := 3) scLaw.nd rfl (.inl rfl) (pe_tup (pa_cons pe_int (pa_cons (pe_tup
        (pa_cons (pe_tup (pa_cons (pe_un un_neg pe_int) pa_nil)) (pa_cons (pe_tup (pa_cons (pe_un un_neg pe_int) (pa_cons pe_int pa_nil))) (pa_cons (pe_tup (pa_cons (pe_un un_neg pe_int) (pa_cons pe_int pa_nil)))
        (pa_cons (pe_tup (pa_cons pe_int pa_nil)) (pa_cons (pe_tup (pa_cons pe_int (pa_cons pe_int pa_nil))) (pa_cons (pe_tup (pa_cons pe_int (pa_cons pe_int pa_nil))) pa_nil))))))) pa_nil))))
    (pss_cons (ps_if (PW.pt (pw_or (pt_cmpR op_ne (pe_c C.exc hr (pa_cons (pv 3) pa_nil)) pe_int (nomark _))
        (pw_or (pt_cmpR op_ne (pe_c C.more hr (pa_cons (pv 3) (pa_cons (pe_tup (pa_cons pe_int (pa_cons pe_int (pa_cons pe_int (pa_cons pe_int pa_nil))))) pa_nil))) pe_int (nomark _))
        (pw_or1 (pt_cmpR op_ne (pe_c C.more hr (pa_cons (pv 3) (pa_cons (pe_tup pa_nil) pa_nil))) pe_int (nomark _)))))) (pss_one (ps_ret pe_bl)) pss_nil)
    (pss_cons (ps_set (i := 4) scLaw.nd rfl (.inl rfl) (pe_tup (pa_cons (pe_tup (pa_cons (pe_tup (pa_cons pe_int (pa_cons (pe_un un_neg pe_int) pa_nil))) (pa_cons (pe_tup (pa_cons pe_int (pa_cons pe_int pa_nil))) (pa_cons (pe_tup (pa_cons pe_int (pa_cons pe_int pa_nil))) pa_nil))))
        (pa_cons (pe_tup (pa_cons pe_int (pa_cons pe_int (pa_cons pe_int (pa_cons pe_int (pa_cons pe_int (pa_cons pe_int pa_nil))))))) pa_nil))))
    (pss_cons (ps_if (PW.pt (pw_or (pt_cmpR (op_neD hu) (pe_c C.set hr (pa_cons (pv 3) (pa_cons (pe_tup (pa_cons (pe_tup (pa_cons pe_int (pa_cons pe_int pa_nil))) (pa_cons (pe_tup (pa_cons pe_int (pa_cons pe_int pa_nil))) pa_nil))) pa_nil))) (pe_tup (pa_cons pe_int (pa_cons pe_int pa_nil))) (nomark _))
        (pw_or1 (pt_cmpR op_ne (pe_c C.chk hr (pa_cons (pv 3) (pa_cons (pv 4) pa_nil))) pe_int (nomark _))))) (pss_one (ps_ret pe_bl)) pss_nil)
    (pss_cons (ps_set (i := 3) scLaw.nd rfl (.inl rfl) (pe_tup (pa_cons pe_int (pa_cons (pe_tup (pa_cons (pe_tup pa_nil) (pa_cons (pe_tup (pa_cons pe_int pa_nil)) pa_nil))) pa_nil))))
    (pss_one (ps_ret (pe_and (pe_cmpR op_eq (pe_c C.exc hr (pa_cons (pe_tup (pa_cons pe_int (pa_cons (pe_tup pa_nil) pa_nil))) pa_nil)) pe_int (nomark _))
      (pe_and (pe_cmpR op_eq (pe_c C.exc hr (pa_cons (pv 3) pa_nil)) pe_int (nomark _))
        (pe_one (pe_cmpR (op_eqD hu) (pe_c C.great hr (pa_cons (pv 3) pa_nil)) (pe_tup (pa_cons (pe_tup (pa_cons pe_int (pa_cons pe_int pa_nil))) pa_nil)) (nomark _))))))))))))), ?_⟩
  have n0 : 0 ≤ sizeLine := Nat.zero_le _
  have n1 : 1 ≤ sizeLine := by decide
  have n2 : 2 ≤ sizeLine := by decide
  have n3 : 3 ≤ sizeLine := by decide
  have n4 : 4 ≤ sizeLine := by decide
  have n6 : 6 ≤ sizeLine := by decide
  refine ⟨_, rfl, a, ns, rfl, ha, hz, fun H1 st l c s1 _ _ _ i1 => ?_⟩
  have lm : (ns.map V.int).length = ns.length := List.length_map _
  refine ⟨_, rfl, a, _, rfl, .inl (s1.seq ha), _, _, rfl, _, _, rfl, rfl, _, rfl, ?_, ?_, ?_⟩
  · show -(2 ^ 62) ≤ (4 : Int) + (if (8 : Int) < (((ns.map V.int).length : Nat) : Int) then 8 else (((ns.map V.int).length : Nat) : Int))
    split <;> omega
  · show (4 : Int) + (if (8 : Int) < (((ns.map V.int).length : Nat) : Int) then 8 else (((ns.map V.int).length : Nat) : Int)) < 2 ^ 62
    split <;> omega
  have turns : ((4 : Int) + (if (8 : Int) < (((ns.map V.int).length : Nat) : Int) then 8 else (((ns.map V.int).length : Nat) : Int))).toNat ≤ 12 := by split <;> omega
  refine for_y (y_rng (lo := 0)) (fun done σ H => StI H st l c (1000 * done.length) ∧ ∃ u, σ = [some (V.ref a), some (V.ref st), u, none, none]) ⟨i1, none, rfl⟩ (fun _ _ _ _ _ _ => True.intro) (fun done x rest v σ H2 H3 e p s hx => ?_) fun σ H2 p => ?_
  · subst hx
    obtain ⟨p1, u, rfl⟩ := p
    have hd : done.length < 12 := by
      have := congrArg List.length e
      rw [List.length_range, List.length_append, List.length_cons] at this
      have t2 : _ ≤ 12 := turns
      omega
    exact ⟨_, rfl, st, l, c, _, rfl, p1.same s, by omega, fun H4 b4 i4 => ⟨_, rfl, iteB rfl ⟨i4.mono (by rw [List.length_append, List.length_singleton]; omega), _, rfl⟩⟩⟩
  obtain ⟨_, u, rfl⟩ := p
  clear turns
  refine ⟨3, rfl, n1, fun t1 h1 => ⟨2, rfl, n2, fun t2 h2 => ⟨1, rfl, n2, fun t3 h3 => ⟨n1, fun t4 h4 => ⟨n2, fun t5 h5 => ⟨n2, fun t6 h6 => ⟨n6, fun tc hc => ⟨n2, fun tb hb => ?_⟩⟩⟩⟩⟩⟩⟩⟩
  have k2 := same_new (.tup [V.int (-2), V.int 3]) h2
  have k3 := same_new (.tup [V.int (-1), V.int 2]) h3
  have k4 := same_new (.tup [V.int 1]) h4
  have k5 := same_new (.tup [V.int 1, V.int 2]) h5
  have k6 := same_new (.tup [V.int 2, V.int 3]) h6
  have k7 := same_new (.tup [V.ref t1, V.ref t2, V.ref t3, V.ref t4, V.ref t5, V.ref t6]) hc
  have k8 := same_new (.tup [V.int 3, V.ref tc]) hb
  have x7 := k7.trans k8
  have x6 := k6.trans x7
  have x5 := k5.trans x6
  have x4 := k4.trans x5
  have x3 := k3.trans x4
  have x2 := k2.trans x3
  have hB : Bun K _ tb 3 csA := ⟨tc, _, SqT.of upd_same, SqT.of (k8 _ _ upd_same), .cons ⟨t1, rfl, SqT.of (x2 _ _ upd_same)⟩ (.cons ⟨t2, rfl, SqT.of (x3 _ _ upd_same)⟩ (.cons ⟨t3, rfl, SqT.of (x4 _ _ upd_same)⟩ (.cons ⟨t4, rfl, SqT.of (x5 _ _ upd_same)⟩ (.cons ⟨t5, rfl, SqT.of (x6 _ _ upd_same)⟩ (.cons ⟨t6, rfl, SqT.of (x7 _ _ upd_same)⟩ .nil)))))⟩
  clear k2 k3 k4 k5 k6 k7 k8 x7 x6 x5 x4 x3 x2
  refine ⟨_, rfl, tb, 3, csA, rfl, hB, goodA, fun H3 s3 => ⟨rfl, _, rfl, iteB ?_ ?_⟩⟩
  · rw [tiesA]
    rfl
  have hB3 := hB.same s3
  clear hB s3
  have g4 : GoodN csA [0, 1, 2, 3] := ⟨by decide, by decide⟩
  have g0 : GoodN csA [] := ⟨fun i hi => (by cases hi), List.Pairwise.nil⟩
  have g6 : GoodN csA [0, 1, 2, 3, 4, 5] := ⟨by decide, by decide⟩
  refine ⟨_, rfl, n4, fun t ht => ?_⟩
  have s4 := same_new (.tup [V.int 0, V.int 1, V.int 2, V.int 3]) ht
  refine ⟨tb, t, 3, csA, [0, 1, 2, 3], rfl, hB3.same s4, goodA, SqT.of upd_same, g4, fun H5 nm s5 hnm => ⟨rfl, _, rfl, iteB ?_ ?_⟩⟩
  · have e := names3 hnm fun x => by
      rw [show ([0, 1, 2, 3].map (row csA)).flatten.map ab = [3, 2, 3, 1, 2, 1] from by decide]
      simp only [List.mem_cons, List.not_mem_nil, or_false]
      omega
    rw [e]
    rfl
  have hB5 := (hB3.same s4).same s5
  clear hB3 s4 s5
  refine ⟨_, rfl, n0, fun t' ht' => ?_⟩
  have s6 := same_new (.tup []) ht'
  refine ⟨tb, t', 3, csA, [], rfl, hB5.same s6, goodA, SqT.of upd_same, g0, fun H7 nm s7 hnm => ⟨rfl, _, rfl, iteB ?_ ?_⟩⟩
  · have e : nm = [] := asc_ext hnm.1 List.Pairwise.nil fun z => (hnm.2 z).trans ((named_flat _ z).trans Iff.rfl)
    rw [e]
    rfl
  have hB7 := (hB5.same s6).same s7
  clear hB5 s6 s7
  -- the paper
  refine ⟨3, rfl, n2, fun p1 q1 => ⟨n2, fun p2 q2 => ⟨n2, fun p3 q3 => ⟨n3, fun pp qp => ⟨n6, fun pn qn => ⟨n2, fun pt qt => ?_⟩⟩⟩⟩⟩⟩
  have y1 := same_new (.tup [V.int 0, V.int (-3)]) q1
  have y2 := same_new (.tup [V.int 2, V.int 2]) q2
  have y3 := same_new (.tup [V.int 3, V.int 1]) q3
  have y4 := same_new (.tup [V.ref p1, V.ref p2, V.ref p3]) qp
  have y5 := same_new (.tup [V.int 0, V.int 1, V.int 2, V.int 3, V.int 4, V.int 5]) qn
  have y6 := same_new (.tup [V.ref pp, V.ref pn]) qt
  have z5 := y5.trans y6
  have z4 := y4.trans z5
  have z3 := y3.trans z4
  have z2 := y2.trans z3
  have hB8 := hB7.same (y1.trans z2)
  have eT := same_at y6
  have eN := y6 _ _ (same_at y5)
  have eP := z5 _ _ (same_at y4)
  have e1 := z2 _ _ (same_at y1)
  have e2 := z3 _ _ (same_at y2)
  have e3 := z4 _ _ (same_at y3)
  generalize upd (upd (upd (upd (upd (upd H7 p1 (.tup [V.int 0, V.int (-3)])) p2 (.tup [V.int 2, V.int 2])) p3 (.tup [V.int 3, V.int 1])) pp (.tup [V.ref p1, V.ref p2, V.ref p3])) pn (.tup [V.int 0, V.int 1, V.int 2, V.int 3, V.int 4, V.int 5])) pt (.tup [V.ref pp, V.ref pn]) = H8 at hB8 eT eN eP e1 e2 e3
  clear y1 y2 y3 y4 y5 y6 z5 z4 z3 z2 qt qn qp q3 q2 q1 hB7
  refine ⟨_, rfl, n2, fun r1 hr1 => ⟨n2, fun r2 hr2 => ⟨n2, fun rt hrt => ?_⟩⟩⟩
  have y1 := same_new (.tup [V.int 2, V.int 2]) hr1
  have y2 := same_new (.tup [V.int 5, V.int 3]) hr2
  have y3 := same_new (.tup [V.ref r1, V.ref r2]) hrt
  have x3 := y1.trans (y2.trans y3)
  refine ⟨tb, rt, 3, csA, [V.ref r1, V.ref r2], [(2, 2), (5, 3)], rfl, hB8.same x3, goodA, SqT.of (same_at y3), .cons ⟨r1, rfl, y3 _ _ (y2 _ _ (same_at y1))⟩ (.cons ⟨r2, rfl, y3 _ _ (same_at y2)⟩ .nil), matchA, fun H9 p qs s9 pm sr e9 => ⟨n2, fun rr hrr => ?_⟩⟩
  have y4 := same_new (.tup [V.int 2, V.int 3]) hrr
  have eq : qs = [(2, 2), (3, 3)] := leP_one sr (by unfold LeP; decide) pm
  subst eq
  have sh : SeqAt.shaped (intsD [2, 3]) = true := by decide +kernel
  refine ⟨intsD [2, 3], intsD [2, 3], dp_ints (SqT.of (y4 _ _ e9)), dp_ints (SqT.of (same_at y4)), sh, sh, _, rfl, iteB (by decide +kernel) ?_⟩
  have x8 := (x3.trans s9).trans y4
  have he : ∀ nm, NamesAre csA [0, 1, 2, 3, 4, 5] nm → ((csA.length : Nat) : Int) - (([(0, -3), (2, 2), (3, 1)] : List (Int × Int)).length : Int) = (([0, 1, 2, 3, 4, 5] : List Int).length : Int) - (nm.length : Int) := fun nm hnm => by
    have e := names3 hnm fun x => by
      rw [show ([0, 1, 2, 3, 4, 5].map (row csA)).flatten.map ab = [3, 2, 3, 1, 2, 1, 1, 2, 2, 3] from by decide]
      simp only [List.mem_cons, List.not_mem_nil, or_false]
      omega
    rw [e]
    rfl
  refine ⟨_, rfl, _, rfl, tb, pt, pp, pn, 3, csA, [V.ref p1, V.ref p2, V.ref p3], [(0, -3), (2, 2), (3, 1)], [0, 1, 2, 3, 4, 5], rfl, hB8.same x8, goodA, SqT.of (x8 _ _ eT), SqT.of (x8 _ _ eP), .cons ⟨p1, rfl, x8 _ _ e1⟩ (.cons ⟨p2, rfl, x8 _ _ e2⟩ (.cons ⟨p3, rfl, x8 _ _ e3⟩ .nil)), matchC, SqT.of (x8 _ _ eN), g6, he, fun H10 s10 => ⟨rfl, _, rfl, iteB (by decide) ?_⟩⟩
  refine ⟨n0, fun w1 hw1 => ⟨n1, fun w2 hw2 => ⟨n2, fun w3 hw3 => ⟨n2, fun w4 hw4 => ?_⟩⟩⟩⟩
  have v1 := same_new (.tup []) hw1
  have v2 := same_new (.tup [V.int 1]) hw2
  have v3 := same_new (.tup [V.ref w1, V.ref w2]) hw3
  have v4 := same_new (.tup [V.int 2, V.ref w3]) hw4
  have u3 := v3.trans v4
  have hBB : Bun K _ w4 2 csB := ⟨w3, [V.ref w1, V.ref w2], SqT.of (same_at v4), SqT.of (v4 _ _ (same_at v3)), .cons ⟨w1, rfl, SqT.of (u3 _ _ (v2 _ _ (same_at v1)))⟩ (.cons ⟨w2, rfl, SqT.of (u3 _ _ (same_at v2))⟩ .nil)⟩
  refine ⟨n0, fun z1 hz1 => ⟨n2, fun z2 hz2 => ?_⟩⟩
  have o1 := same_new (.tup []) hz1
  have o2 := same_new (.tup [V.int 1, V.ref z1]) hz2
  have hBE : Bun K _ z2 1 [] := ⟨z1, [], SqT.of (same_at o2), SqT.of (o2 _ _ (same_at o1)), .nil⟩
  refine ⟨z2, 1, [], rfl, hBE, goodE, fun H11 s11 => ⟨rfl, _, rfl, iteA ?_ ?_⟩⟩
  · rw [tiesE]
    rfl
  have hB11 := hBB.same ((o1.trans o2).trans s11)
  refine ⟨_, rfl, w4, 2, csB, rfl, hB11, goodB, fun H12 s12 => ⟨rfl, _, rfl, iteA ?_ ?_⟩⟩
  · rw [tiesBB]
    rfl
  refine ⟨_, rfl, w4, 2, csB, rfl, hB11.same s12, goodB, fun H13 p xs ps s13 pm sr tp pa => ?_⟩
  rw [matchBB] at pm
  have eps : ps = [(1, 1)] := List.perm_singleton.mp pm
  subst eps
  refine ⟨n2, fun a1 ha1 => ⟨n1, fun a2 ha2 => ?_⟩⟩
  have b1 := same_new (.tup [V.int 1, V.int 1]) ha1
  have b2 := same_new (.tup [V.ref a1]) ha2
  have b12 := b1.trans b2
  have shp : SeqAt.shaped (pairsD [(1, 1)]) = true := by decide +kernel
  refine ⟨pairsD [(1, 1)], pairsD [(1, 1)], dp_pairs (TupP.sq (TupP.same b12 tp)) (PairsAt.same b12 pa), dp_pairs (SqT.of (same_at b2)) (.cons ⟨a1, rfl, b2 _ _ (same_at b1)⟩ .nil), shp, shp, ?_⟩
  have ev : PyData.eqv (pairsD [(1, 1)]) (pairsD [(1, 1)]) = true := by decide +kernel
  rw [ev]
  exact q _
end
end IdW
end
section
set_option maxRecDepth 100000
/-! The end: the defs as the top leaves them, one after the other. -/
namespace IdW
open PySem PySem.Spec PyProof.Rows L2 IdR RZ Idle
section
variable {K : PySem.W.Frag} {h : Heap} {mg : Str → Option Value}
theorem def_mk {x : Str} {st : Stmt} {ps : List Str} {f : Addr} {oc : Value} {od an : Option Addr} {osl : Array (Option Value)} {kV doc pm cdv ct : Value} (X : K.In h) (G : h.Ns mainGlobals mg)
    (a : PySem.W.nsIn K mainGlobals x = some (some (.ref f))) (l : K.lookup f = some ⟨oc, od, .func (PySem.W.fnOf x x (defArgs st) (defBody st) (defScope st) .none kV doc pm an cdv ct), osl⟩) (c : PySem.W.codeIn K cdv x = true) (k : PySem.W.keepIn K (.ref f) = true)
    (b : ∀ (kV doc pm : Value) (an : Option Addr) (cdv ct : Value) (us : List Value), us.length = ps.length → bindArgs (PySem.W.fnOf x x (defArgs st) (defBody st) (defScope st) .none kV doc pm an cdv ct) ⟨us, []⟩ = pure (ps.zip us)) : Def K mg x st ps :=
  have F := fun_mk (st := st) l c k
  ⟨f, _, F, PySem.W.mg_of X G a, F.binds b⟩
end
section
variable {P : Program} {w : World} {K : PySem.W.Frag} {mg : Str → Option Value} {base : Heap}
theorem right_of {k : Nat} {x : Str} {st : Stmt} {ps : List Str} {sp : Sp} (D : Def K mg x st ps) (F : ∀ f fd, Fun K x x st f fd → FnG P w K mg base k f fd ps sp) : CalG P w K mg base k x sp := by
  obtain ⟨f, fd, z, m, b⟩ := D.ex
  exact ⟨f, fd, ps, F f fd z, m, z.kp, b⟩
theorem all_of {f : Addr} {fd : FuncData} (F : Fun K "law" "law" sLaw f fd) (G : Glo mg) (D1 : Def K mg "is_integer" (top 1) ["thing"]) (D2 : Def K mg "is_between" (top 2) ["thing", "least", "most"]) (D3 : Def K mg "are_rising" (top 3) ["some"]) (D4 : Def K mg "is_literal" (top 4) ["names", "thing"]) (D5 : Def K mg "is_clause" (top 5) ["names", "thing"]) (D6 : Def K mg "by_names" (top 6) ["literals"]) (D7 : Def K mg "names_in" (top 7) ["clauses"]) (D17 : Def K mg "need_bundle" (top 17) ["thing"]) (D19 : Def K mg "is_grown" (top 19) ["leads", "back", "first", "tried"]) (D20 : Def K mg "ties_of" (top 20) ["leads"]) (D21 : Def K mg "leads_of" (top 21) ["bundle", "numbers", "names"]) (D22 : Def K mg "pairs_by" (top 22) ["bundle", "back"]) (D23 : Def K mg "all_leads" (top 23) ["bundle"]) (D24 : Def K mg "greatest_matching" (top 24) ["bundle"]) (D25 : Def K mg "is_matching" (top 25) ["bundle", "thing"]) (D26 : Def K mg "setting_by" (top 26) ["bundle", "matching"]) (D27 : Def K mg "are_numbers" (top 27) ["bundle", "thing"]) (D28 : Def K mg "need_numbers" (top 28) ["bundle", "numbers"]) (D29 : Def K mg "clauses_at" (top 29) ["bundle", "numbers"]) (D30 : Def K mg "more_in" (top 30) ["bundle", "numbers"]) (D31 : Def K mg "more_of" (top 31) ["bundle", "numbers"]) (D32 : Def K mg "left_over" (top 32) ["bundle", "back"]) (D33 : Def K mg "excess" (top 33) ["bundle"]) (D34 : Def K mg "excess_paper" (top 34) ["bundle"]) (D35 : Def K mg "check_excess" (top 35) ["bundle", "paper"]) (D37 : Def K mg "_law_mixed" (top 37) ["cell", "k"]) (D38 : Def K mg "_law_begin" (top 38) ["script"]) (D39 : Def K mg "_law_draw" (top 39) ["state", "many"]) (D40 : Def K mg "_law_clause" (top 40) ["state", "names"]) (D41 : Def K mg "_law_bundle" (top 41) ["state", "most", "many"]) (D42 : Def K mg "_law_is_spot" (top 42) ["thing", "many"]) (D43 : Def K mg "_law_names_of" (top 43) ["clauses"]) (D44 : Def K mg "_law_more" (top 44) ["bundle", "numbers"]) (D45 : Def K mg "_law_paired" (top 45) ["bundle", "numbers", "lot", "must"]) (D46 : Def K mg "_law_most_pairs" (top 46) ["bundle"]) (D47 : Def K mg "_law_is_matching" (top 47) ["bundle", "thing"]) (D48 : Def K mg "_law_numbers" (top 48) ["state", "bundle"]) (D49 : Def K mg "_law_right" (top 49) ["state"]) : FnG P w K mg base 12 f fd ["script"] (spLaw K) := by
  have c1 := ok_int (P := P) (w := w) (base := base) G D1
  have c2 := ok_between G c1 D2
  have c3 := ok_rising (P := P) (w := w) (base := base) G D3
  have c4 := ok_lit G c1 D4
  have c5 := ok_clause G c4 c3 D5
  have c6 := ok_by (P := P) (w := w) (base := base) G D6
  have c7 := ok_names_in (P := P) (w := w) (base := base) G D7
  have c17 := ok_need_b G c2 c5 D17
  have c20 : ∀ L m, In7 L → Cal P w K mg base 9 "ties_of" (spTies L m) := fun L m h7 => ok_ties (ok_grown h7 D19 8) D20
  have c21 := ok_leads_of G c7 D21
  have c22 := ok_pairs (P := P) (w := w) (base := base) G D22
  have c23 := ok_all G c21 D23
  have c24 := ok_great c17 c23 c20 c22 D24
  have c25 := ok_ism G c2 c4 c3 D25
  have c26 := ok_set c17 c25 c6 D26
  have c27 := ok_aren G c2 c3 D27
  have c28 := ok_needn c17 c27 D28
  have c29 := ok_at (P := P) (w := w) (base := base) D29
  have c30 := ok_more_in G c29 c7 D30
  have c31 := ok_more_of c28 c30 D31
  have c32 := ok_left G c23 D32
  have c33 := ok_exc G c17 c23 c20 D33
  have c34 := ok_pap G c17 c23 c20 c22 c32 D34
  have c35 := ok_chk G c17 c25 c27 c30 D35
  have c37 := ok_mixed (P := P) (w := w) (K := K) (base := base) G D37
  have c38 := ok_begin (P := P) (w := w) (base := base) G D38
  have c39 := ok_draw G c37 D39
  have c40 := ok_lcl G c39 D40
  have c41 := ok_lb G c39 c40 D41
  have c42 := ok_spot (P := P) (w := w) (base := base) G D42
  have c43 := ok_nof (P := P) (w := w) (base := base) G D43
  have c44 := ok_lmore G c43 D44
  have c45 := ok_pd (P := P) (w := w) (base := base) G D45
  have c46 := ok_mp G c45 D46
  have c47 := ok_lm G c42 D47
  have c48 := ok_nu G c39 D48
  have C : Calls P w K mg base := ⟨c41, c46, c24, c47, c39, c26, c48, c31, c44, c34, c33, c35⟩
  exact ok_law G C c38 (right_of D49 fun f fd z => ok_right G C z) F
end
end IdW
end
section
set_option maxRecDepth 100000
/-! The row itself: the top is walked by the head's command, then each def is read off it. -/
namespace IdW
open PySem PySem.Spec PyProof.Rows L2 IdR RZ Idle
theorem law_end {l : PySem.W.OpenLaw} {w : World} {K : PySem.W.Frag} {h : Heap} {mg : Str → Option Value} {fa fb : Addr} (X : K.In h) (G : h.Ns mainGlobals mg) (hfa : mg "law" = some (.ref fa))
    {od an : Option Addr} {osl : Array (Option Value)} {oc kV doc pm cdv ct : Value}
    (a : PySem.W.nsIn K mainGlobals "law" = some (some (.ref fb))) (look : K.lookup fb = some ⟨oc, od, .func (PySem.W.fnOf "law" "law" (defArgs sLaw) (defBody sLaw) (defScope sLaw) .none kV doc pm an cdv ct), osl⟩) (c : PySem.W.codeIn K cdv "law" = true) (k : PySem.W.keepIn K (.ref fb) = true)
    (H : ∀ (fd : FuncData) (base : Heap), Fun K "law" "law" sLaw fb fd → FnG l.prog w K mg base 12 fb fd ["script"] (spLaw K)) :
    ∃ fd : FuncData, (∀ (s : Shared) (u : Value), BindsTo s fd ⟨[u], []⟩ [("script", u)]) ∧ ∀ base : Heap, K.In base → base.Ns mainGlobals mg → FnG l.prog w K mg base 12 fa fd ["script"] (spLaw K) := by
  have e := hfa.symm.trans (PySem.W.mg_of X G a)
  cases e
  exact ⟨_, fun s v => .of_eq rfl, fun base _ _ => H _ base (fun_mk (st := sLaw) look c k)⟩
abbrev DefX {K : PySem.W.Frag} {h : Heap} (_ : K.In h) (mg : Str → Option Value) (x : Str) (st : Stmt) (ps : List Str) : Prop := Def K mg x st ps
theorem num_of {K : PySem.W.Frag} {h : Heap} {mg : Str → Option Value} {x : Str} {n : Int} {t : Nat} (X : K.In h) (G : h.Ns mainGlobals mg) (a : PySem.W.nsIn K mainGlobals x = some (some (.int n t))) : ∃ t, mg x = some (.int n t) :=
  ⟨_, PySem.W.mg_of X G a⟩
end IdW
open PySem PySem.W PyProof.Rows
set_option maxHeartbeats 0 in
theorem PySem.Challenge.cw_idleclauses_k17_whole_matchings_holds : PySem.Challenge.rw_idleclauses_k17_whole_matchings.Holds := by
  w_on; o_law; k_head; (case hw => w_witness2)
  k_fill
  refine IdW.walkG_of (l := PySem.Challenge.rw_idleclauses_k17_whole_matchings) (n := 63) (k := 12) (x := "script") (sp := IdW.spLaw) rfl (by decide) rfl ⟨rfl, by decide, by decide⟩ (fun w h Y => PySem.W.kIn_of Y) ?F (fun K H a ns h1 h2 => ⟨a, ns, rfl, h2, h1, fun _ => rfl⟩)
  case F =>
    intro w mg fa h KX G hmg
    have D1 : IdW.DefX KX mg "is_integer" (IdW.top 1) ["thing"] := by
      refine' IdW.def_mk KX G ?a1 ?l1 ?c1 ?k1 (fun _ _ _ _ _ _ us hl => match us, hl with | [_], _ => rfl)
      (case a1 => k_is); (case l1 => k_is); (case c1 => k_is); (case k1 => k_is)
    have D2 : IdW.DefX KX mg "is_between" (IdW.top 2) ["thing", "least", "most"] := by
      refine' IdW.def_mk KX G ?a2 ?l2 ?c2 ?k2 (fun _ _ _ _ _ _ us hl => match us, hl with | [_, _, _], _ => rfl)
      (case a2 => k_is); (case l2 => k_is); (case c2 => k_is); (case k2 => k_is)
    have D3 : IdW.DefX KX mg "are_rising" (IdW.top 3) ["some"] := by
      refine' IdW.def_mk KX G ?a3 ?l3 ?c3 ?k3 (fun _ _ _ _ _ _ us hl => match us, hl with | [_], _ => rfl)
      (case a3 => k_is); (case l3 => k_is); (case c3 => k_is); (case k3 => k_is)
    have D4 : IdW.DefX KX mg "is_literal" (IdW.top 4) ["names", "thing"] := by
      refine' IdW.def_mk KX G ?a4 ?l4 ?c4 ?k4 (fun _ _ _ _ _ _ us hl => match us, hl with | [_, _], _ => rfl)
      (case a4 => k_is); (case l4 => k_is); (case c4 => k_is); (case k4 => k_is)
    have D5 : IdW.DefX KX mg "is_clause" (IdW.top 5) ["names", "thing"] := by
      refine' IdW.def_mk KX G ?a5 ?l5 ?c5 ?k5 (fun _ _ _ _ _ _ us hl => match us, hl with | [_, _], _ => rfl)
      (case a5 => k_is); (case l5 => k_is); (case c5 => k_is); (case k5 => k_is)
    have D6 : IdW.DefX KX mg "by_names" (IdW.top 6) ["literals"] := by
      refine' IdW.def_mk KX G ?a6 ?l6 ?c6 ?k6 (fun _ _ _ _ _ _ us hl => match us, hl with | [_], _ => rfl)
      (case a6 => k_is); (case l6 => k_is); (case c6 => k_is); (case k6 => k_is)
    have D7 : IdW.DefX KX mg "names_in" (IdW.top 7) ["clauses"] := by
      refine' IdW.def_mk KX G ?a7 ?l7 ?c7 ?k7 (fun _ _ _ _ _ _ us hl => match us, hl with | [_], _ => rfl)
      (case a7 => k_is); (case l7 => k_is); (case c7 => k_is); (case k7 => k_is)
    have D17 : IdW.DefX KX mg "need_bundle" (IdW.top 17) ["thing"] := by
      refine' IdW.def_mk KX G ?a17 ?l17 ?c17 ?k17 (fun _ _ _ _ _ _ us hl => match us, hl with | [_], _ => rfl)
      (case a17 => k_is); (case l17 => k_is); (case c17 => k_is); (case k17 => k_is)
    have D19 : IdW.DefX KX mg "is_grown" (IdW.top 19) ["leads", "back", "first", "tried"] := by
      refine' IdW.def_mk KX G ?a19 ?l19 ?c19 ?k19 (fun _ _ _ _ _ _ us hl => match us, hl with | [_, _, _, _], _ => rfl)
      (case a19 => k_is); (case l19 => k_is); (case c19 => k_is); (case k19 => k_is)
    have D20 : IdW.DefX KX mg "ties_of" (IdW.top 20) ["leads"] := by
      refine' IdW.def_mk KX G ?a20 ?l20 ?c20 ?k20 (fun _ _ _ _ _ _ us hl => match us, hl with | [_], _ => rfl)
      (case a20 => k_is); (case l20 => k_is); (case c20 => k_is); (case k20 => k_is)
    have D21 : IdW.DefX KX mg "leads_of" (IdW.top 21) ["bundle", "numbers", "names"] := by
      refine' IdW.def_mk KX G ?a21 ?l21 ?c21 ?k21 (fun _ _ _ _ _ _ us hl => match us, hl with | [_, _, _], _ => rfl)
      (case a21 => k_is); (case l21 => k_is); (case c21 => k_is); (case k21 => k_is)
    have D22 : IdW.DefX KX mg "pairs_by" (IdW.top 22) ["bundle", "back"] := by
      refine' IdW.def_mk KX G ?a22 ?l22 ?c22 ?k22 (fun _ _ _ _ _ _ us hl => match us, hl with | [_, _], _ => rfl)
      (case a22 => k_is); (case l22 => k_is); (case c22 => k_is); (case k22 => k_is)
    have D23 : IdW.DefX KX mg "all_leads" (IdW.top 23) ["bundle"] := by
      refine' IdW.def_mk KX G ?a23 ?l23 ?c23 ?k23 (fun _ _ _ _ _ _ us hl => match us, hl with | [_], _ => rfl)
      (case a23 => k_is); (case l23 => k_is); (case c23 => k_is); (case k23 => k_is)
    have D24 : IdW.DefX KX mg "greatest_matching" (IdW.top 24) ["bundle"] := by
      refine' IdW.def_mk KX G ?a24 ?l24 ?c24 ?k24 (fun _ _ _ _ _ _ us hl => match us, hl with | [_], _ => rfl)
      (case a24 => k_is); (case l24 => k_is); (case c24 => k_is); (case k24 => k_is)
    have D25 : IdW.DefX KX mg "is_matching" (IdW.top 25) ["bundle", "thing"] := by
      refine' IdW.def_mk KX G ?a25 ?l25 ?c25 ?k25 (fun _ _ _ _ _ _ us hl => match us, hl with | [_, _], _ => rfl)
      (case a25 => k_is); (case l25 => k_is); (case c25 => k_is); (case k25 => k_is)
    have D26 : IdW.DefX KX mg "setting_by" (IdW.top 26) ["bundle", "matching"] := by
      refine' IdW.def_mk KX G ?a26 ?l26 ?c26 ?k26 (fun _ _ _ _ _ _ us hl => match us, hl with | [_, _], _ => rfl)
      (case a26 => k_is); (case l26 => k_is); (case c26 => k_is); (case k26 => k_is)
    have D27 : IdW.DefX KX mg "are_numbers" (IdW.top 27) ["bundle", "thing"] := by
      refine' IdW.def_mk KX G ?a27 ?l27 ?c27 ?k27 (fun _ _ _ _ _ _ us hl => match us, hl with | [_, _], _ => rfl)
      (case a27 => k_is); (case l27 => k_is); (case c27 => k_is); (case k27 => k_is)
    have D28 : IdW.DefX KX mg "need_numbers" (IdW.top 28) ["bundle", "numbers"] := by
      refine' IdW.def_mk KX G ?a28 ?l28 ?c28 ?k28 (fun _ _ _ _ _ _ us hl => match us, hl with | [_, _], _ => rfl)
      (case a28 => k_is); (case l28 => k_is); (case c28 => k_is); (case k28 => k_is)
    have D29 : IdW.DefX KX mg "clauses_at" (IdW.top 29) ["bundle", "numbers"] := by
      refine' IdW.def_mk KX G ?a29 ?l29 ?c29 ?k29 (fun _ _ _ _ _ _ us hl => match us, hl with | [_, _], _ => rfl)
      (case a29 => k_is); (case l29 => k_is); (case c29 => k_is); (case k29 => k_is)
    have D30 : IdW.DefX KX mg "more_in" (IdW.top 30) ["bundle", "numbers"] := by
      refine' IdW.def_mk KX G ?a30 ?l30 ?c30 ?k30 (fun _ _ _ _ _ _ us hl => match us, hl with | [_, _], _ => rfl)
      (case a30 => k_is); (case l30 => k_is); (case c30 => k_is); (case k30 => k_is)
    have D31 : IdW.DefX KX mg "more_of" (IdW.top 31) ["bundle", "numbers"] := by
      refine' IdW.def_mk KX G ?a31 ?l31 ?c31 ?k31 (fun _ _ _ _ _ _ us hl => match us, hl with | [_, _], _ => rfl)
      (case a31 => k_is); (case l31 => k_is); (case c31 => k_is); (case k31 => k_is)
    have D32 : IdW.DefX KX mg "left_over" (IdW.top 32) ["bundle", "back"] := by
      refine' IdW.def_mk KX G ?a32 ?l32 ?c32 ?k32 (fun _ _ _ _ _ _ us hl => match us, hl with | [_, _], _ => rfl)
      (case a32 => k_is); (case l32 => k_is); (case c32 => k_is); (case k32 => k_is)
    have D33 : IdW.DefX KX mg "excess" (IdW.top 33) ["bundle"] := by
      refine' IdW.def_mk KX G ?a33 ?l33 ?c33 ?k33 (fun _ _ _ _ _ _ us hl => match us, hl with | [_], _ => rfl)
      (case a33 => k_is); (case l33 => k_is); (case c33 => k_is); (case k33 => k_is)
    have D34 : IdW.DefX KX mg "excess_paper" (IdW.top 34) ["bundle"] := by
      refine' IdW.def_mk KX G ?a34 ?l34 ?c34 ?k34 (fun _ _ _ _ _ _ us hl => match us, hl with | [_], _ => rfl)
      (case a34 => k_is); (case l34 => k_is); (case c34 => k_is); (case k34 => k_is)
    have D35 : IdW.DefX KX mg "check_excess" (IdW.top 35) ["bundle", "paper"] := by
      refine' IdW.def_mk KX G ?a35 ?l35 ?c35 ?k35 (fun _ _ _ _ _ _ us hl => match us, hl with | [_, _], _ => rfl)
      (case a35 => k_is); (case l35 => k_is); (case c35 => k_is); (case k35 => k_is)
    have D37 : IdW.DefX KX mg "_law_mixed" (IdW.top 37) ["cell", "k"] := by
      refine' IdW.def_mk KX G ?a37 ?l37 ?c37 ?k37 (fun _ _ _ _ _ _ us hl => match us, hl with | [_, _], _ => rfl)
      (case a37 => k_is); (case l37 => k_is); (case c37 => k_is); (case k37 => k_is)
    have D38 : IdW.DefX KX mg "_law_begin" (IdW.top 38) ["script"] := by
      refine' IdW.def_mk KX G ?a38 ?l38 ?c38 ?k38 (fun _ _ _ _ _ _ us hl => match us, hl with | [_], _ => rfl)
      (case a38 => k_is); (case l38 => k_is); (case c38 => k_is); (case k38 => k_is)
    have D39 : IdW.DefX KX mg "_law_draw" (IdW.top 39) ["state", "many"] := by
      refine' IdW.def_mk KX G ?a39 ?l39 ?c39 ?k39 (fun _ _ _ _ _ _ us hl => match us, hl with | [_, _], _ => rfl)
      (case a39 => k_is); (case l39 => k_is); (case c39 => k_is); (case k39 => k_is)
    have D40 : IdW.DefX KX mg "_law_clause" (IdW.top 40) ["state", "names"] := by
      refine' IdW.def_mk KX G ?a40 ?l40 ?c40 ?k40 (fun _ _ _ _ _ _ us hl => match us, hl with | [_, _], _ => rfl)
      (case a40 => k_is); (case l40 => k_is); (case c40 => k_is); (case k40 => k_is)
    have D41 : IdW.DefX KX mg "_law_bundle" (IdW.top 41) ["state", "most", "many"] := by
      refine' IdW.def_mk KX G ?a41 ?l41 ?c41 ?k41 (fun _ _ _ _ _ _ us hl => match us, hl with | [_, _, _], _ => rfl)
      (case a41 => k_is); (case l41 => k_is); (case c41 => k_is); (case k41 => k_is)
    have D42 : IdW.DefX KX mg "_law_is_spot" (IdW.top 42) ["thing", "many"] := by
      refine' IdW.def_mk KX G ?a42 ?l42 ?c42 ?k42 (fun _ _ _ _ _ _ us hl => match us, hl with | [_, _], _ => rfl)
      (case a42 => k_is); (case l42 => k_is); (case c42 => k_is); (case k42 => k_is)
    have D43 : IdW.DefX KX mg "_law_names_of" (IdW.top 43) ["clauses"] := by
      refine' IdW.def_mk KX G ?a43 ?l43 ?c43 ?k43 (fun _ _ _ _ _ _ us hl => match us, hl with | [_], _ => rfl)
      (case a43 => k_is); (case l43 => k_is); (case c43 => k_is); (case k43 => k_is)
    have D44 : IdW.DefX KX mg "_law_more" (IdW.top 44) ["bundle", "numbers"] := by
      refine' IdW.def_mk KX G ?a44 ?l44 ?c44 ?k44 (fun _ _ _ _ _ _ us hl => match us, hl with | [_, _], _ => rfl)
      (case a44 => k_is); (case l44 => k_is); (case c44 => k_is); (case k44 => k_is)
    have D45 : IdW.DefX KX mg "_law_paired" (IdW.top 45) ["bundle", "numbers", "lot", "must"] := by
      refine' IdW.def_mk KX G ?a45 ?l45 ?c45 ?k45 (fun _ _ _ _ _ _ us hl => match us, hl with | [_, _, _, _], _ => rfl)
      (case a45 => k_is); (case l45 => k_is); (case c45 => k_is); (case k45 => k_is)
    have D46 : IdW.DefX KX mg "_law_most_pairs" (IdW.top 46) ["bundle"] := by
      refine' IdW.def_mk KX G ?a46 ?l46 ?c46 ?k46 (fun _ _ _ _ _ _ us hl => match us, hl with | [_], _ => rfl)
      (case a46 => k_is); (case l46 => k_is); (case c46 => k_is); (case k46 => k_is)
    have D47 : IdW.DefX KX mg "_law_is_matching" (IdW.top 47) ["bundle", "thing"] := by
      refine' IdW.def_mk KX G ?a47 ?l47 ?c47 ?k47 (fun _ _ _ _ _ _ us hl => match us, hl with | [_, _], _ => rfl)
      (case a47 => k_is); (case l47 => k_is); (case c47 => k_is); (case k47 => k_is)
    have D48 : IdW.DefX KX mg "_law_numbers" (IdW.top 48) ["state", "bundle"] := by
      refine' IdW.def_mk KX G ?a48 ?l48 ?c48 ?k48 (fun _ _ _ _ _ _ us hl => match us, hl with | [_, _], _ => rfl)
      (case a48 => k_is); (case l48 => k_is); (case c48 => k_is); (case k48 => k_is)
    have D49 : IdW.DefX KX mg "_law_right" (IdW.top 49) ["state"] := by
      refine' IdW.def_mk KX G ?a49 ?l49 ?c49 ?k49 (fun _ _ _ _ _ _ us hl => match us, hl with | [_], _ => rfl)
      (case a49 => k_is); (case l49 => k_is); (case c49 => k_is); (case k49 => k_is)
    have z_isinstance : mg "isinstance" = none := PySem.W.mg_none_of KX G (by k_is)
    have z_int : mg "int" = none := PySem.W.mg_none_of KX G (by k_is)
    have z_bool : mg "bool" = none := PySem.W.mg_none_of KX G (by k_is)
    have z_tuple : mg "tuple" = none := PySem.W.mg_none_of KX G (by k_is)
    have z_dict : mg "dict" = none := PySem.W.mg_none_of KX G (by k_is)
    have z_list : mg "list" = none := PySem.W.mg_none_of KX G (by k_is)
    have z_all : mg "all" = none := PySem.W.mg_none_of KX G (by k_is)
    have z_abs : mg "abs" = none := PySem.W.mg_none_of KX G (by k_is)
    have z_sorted : mg "sorted" = none := PySem.W.mg_none_of KX G (by k_is)
    have z_len : mg "len" = none := PySem.W.mg_none_of KX G (by k_is)
    have z_repr : mg "repr" = none := PySem.W.mg_none_of KX G (by k_is)
    have z_min : mg "min" = none := PySem.W.mg_none_of KX G (by k_is)
    have z_max : mg "max" = none := PySem.W.mg_none_of KX G (by k_is)
    have z_zip : mg "zip" = none := PySem.W.mg_none_of KX G (by k_is)
    have z_enumerate : mg "enumerate" = none := PySem.W.mg_none_of KX G (by k_is)
    have z_range : mg "range" = none := PySem.W.mg_none_of KX G (by k_is)
    have mN : ∃ t, mg "MOST_NAMES" = some (.int 7 t) := by
      refine' IdW.num_of KX G ?mn
      (case mn => k_is)
    have mC : ∃ t, mg "MOST_CLAUSES" = some (.int 16 t) := by
      refine' IdW.num_of KX G ?mc
      (case mc => k_is)
    have GG : IdW.Glo mg := ⟨z_isinstance, z_int, z_bool, z_tuple, z_dict, z_list, z_all, z_abs, z_sorted, z_len, z_repr, z_min, z_max, z_zip, z_enumerate, z_range, mN, mC⟩
    refine' IdW.law_end KX G hmg ?a ?l ?c ?k (fun fd base F => IdW.all_of F GG D1 D2 D3 D4 D5 D6 D7 D17 D19 D20 D21 D22 D23 D24 D25 D26 D27 D28 D29 D30 D31 D32 D33 D34 D35 D37 D38 D39 D40 D41 D42 D43 D44 D45 D46 D47 D48 D49)
    (case a => k_is); (case l => k_is); (case c => k_is); (case k => k_is)
end
