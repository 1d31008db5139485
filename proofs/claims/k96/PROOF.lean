import PyProof.Rows.All
import Wide.All
import OpenK.AllK
import Wide.FinOn
import HandS.ForMost
import HandS.ForExc
import HandS.TryMany
import HandS.DictComp
import HandS.IsInst
import HandS.SetKeys
import HandS.Strs
import HandS.Zip
import HandS.TupMul
import HandS.TupAny
import HandS.TupLe
import HandS.TupSets
import HandS.Wide
import HandS.WideBits
import HandS.SortInts
import HandS.Conv
import HandS.Style
import HandS.Evl
import HandS.Deep
import HandS.DictTup
import HandS.SetFor
import HandS.TupLen
import PyProof.DictMoreH
import PySem.Challenge.RW_costslimited_k96_least_ladders
import HandS.Zip0
import KE.KDictZip
import HandS.Defaults
import HandS.Iter
import HandS.ExcOwn
set_option Elab.async false
set_option linter.all false
/-! Ladders, plain: runs, rests, the early form, stable marks. -/
set_option linter.all false
namespace Ladm

abbrev Ent := Option (Int × Nat)
abbrev Rows := List (List Ent)
abbrev Tips := List (Option Int)
/-- a system: entries by state and letter, what is paid at the end -/
abbrev ES := Nat → Nat → Ent
abbrev FS := Nat → Option Int

def ent (rows : Rows) : ES := fun s a => ((rows[s]?.getD [])[a]?).getD none
def tip (ends : Tips) : FS := fun s => (ends[s]?).getD none

def run (E : ES) (F : FS) : Nat → List Nat → Option Int
  | s, [] => F s
  | s, a :: w => match E s a with
    | none => none
    | some (p, t) => (run E F t w).map (p + ·)

theorem run_nil {E : ES} {F : FS} {s : Nat} : run E F s [] = F s := rfl
theorem run_none {E : ES} {F : FS} {s a : Nat} {w : List Nat} (h : E s a = none) : run E F s (a :: w) = none := by
  simp only [run, h]
theorem run_some {E : ES} {F : FS} {s a t : Nat} {p : Int} {w : List Nat} (h : E s a = some (p, t)) : run E F s (a :: w) = (run E F t w).map (p + ·) := by
  simp only [run, h]

/-- o is the least cost from s on -/
def Rest (E : ES) (F : FS) (s : Nat) : Option Int → Prop
  | none => ∀ w, run E F s w = none
  | some r => (∃ w, run E F s w = some r) ∧ ∀ w c, run E F s w = some c → r ≤ c

theorem Rest.uniq {E : ES} {F : FS} {s : Nat} {o o' : Option Int} (h : Rest E F s o) (h' : Rest E F s o') : o = o' := by
  cases o with
  | none =>
    cases o' with
    | none => rfl
    | some r =>
      obtain ⟨⟨w, e⟩, _⟩ := h'
      rw [h w] at e; cases e
  | some r =>
    cases o' with
    | none =>
      obtain ⟨⟨w, e⟩, _⟩ := h
      rw [h' w] at e; cases e
    | some r' =>
      obtain ⟨⟨w, e⟩, m⟩ := h
      obtain ⟨⟨w', e'⟩, m'⟩ := h'
      have := m w' r' e'
      have := m' w r e
      congr 1; omega

def Eqv (E : ES) (F : FS) (s t : Nat) : Prop := ∀ w, run E F s w = run E F t w

/-! ### told as early as possible -/
def earlyE (E : ES) (R : FS) : ES := fun s a => match E s a with
  | none => none
  | some (p, t) => (R t).map fun r => (p + r - (R s).getD 0, t)
def earlyF (F R : FS) : FS := fun s => (F s).map fun c => c - (R s).getD 0

theorem run_early {E : ES} {F R : FS} (hR : ∀ s, Rest E F s (R s)) : ∀ (w : List Nat) (s : Nat), run (earlyE E R) (earlyF F R) s w = (run E F s w).map (fun c => c - (R s).getD 0)
  | [], s => rfl
  | a :: w, s => by
    cases h : E s a with
    | none =>
      have h' : earlyE E R s a = none := by simp only [earlyE, h]
      rw [run_none h, run_none h']; rfl
    | some pt =>
      obtain ⟨p, t⟩ := pt
      rw [run_some h]
      cases hr : R t with
      | none =>
        have h' : earlyE E R s a = none := by simp only [earlyE, h, hr, Option.map_none]
        have q := hR t
        rw [hr] at q
        rw [run_none h', q w]; rfl
      | some r =>
        have h' : earlyE E R s a = some (p + r - (R s).getD 0, t) := by simp only [earlyE, h, hr, Option.map_some]
        rw [run_some h', run_early hR w t, hr]
        cases run E F t w with
        | none => rfl
        | some c =>
          simp only [Option.map_some, Option.getD_some]
          congr 1; omega

theorem rest_early {E : ES} {F R : FS} (hR : ∀ s, Rest E F s (R s)) {s : Nat} {r : Int} (h : R s = some r) : Rest (earlyE E R) (earlyF F R) s (some 0) := by
  have q := hR s
  rw [h] at q
  obtain ⟨⟨w, e⟩, m⟩ := q
  refine ⟨⟨w, ?_⟩, fun w' c e' => ?_⟩
  · rw [run_early hR, e, h]
    simp only [Option.map_some, Option.getD_some]
    congr 1; omega
  · rw [run_early hR, h] at e'
    cases k : run E F s w' with
    | none => rw [k] at e'; cases e'
    | some c' =>
      rw [k] at e'
      have := m w' c' k
      have e2 : c' - r = c := by simpa using e'
      omega

/-- where an early entry leads, an end is come to; its price is at least 0 -/
theorem early_some {E : ES} {F R : FS} (hR : ∀ s, Rest E F s (R s)) {s a t : Nat} {p : Int} (h : earlyE E R s a = some (p, t)) : (∃ r, R t = some r) ∧ 0 ≤ p := by
  cases k : E s a with
  | none => simp only [earlyE, k] at h; cases h
  | some pt =>
    obtain ⟨p0, t0⟩ := pt
    cases hr : R t0 with
    | none => simp only [earlyE, k, hr, Option.map_none] at h; cases h
    | some r =>
      simp only [earlyE, k, hr, Option.map_some, Option.some.injEq, Prod.mk.injEq] at h
      obtain ⟨h1, h2⟩ := h
      subst h2
      refine ⟨⟨r, hr⟩, ?_⟩
      have q := hR t0
      rw [hr] at q
      obtain ⟨⟨w, e⟩, _⟩ := q
      have e2 : run E F s (a :: w) = some (p0 + r) := by rw [run_some k, e]; rfl
      have qs := hR s
      cases hs : R s with
      | none => rw [hs] at qs; rw [qs (a :: w)] at e2; cases e2
      | some rs =>
        rw [hs] at qs h1
        have := qs.2 _ _ e2
        simp only [Option.getD_some] at h1
        omega

/-! ### an early system: all states of S have the rest 0 and lead within S -/
structure Early (E : ES) (F : FS) (S : Nat → Prop) : Prop where
  rest : ∀ s, S s → Rest E F s (some 0)
  inn : ∀ s a p t, S s → E s a = some (p, t) → S t

theorem early_of {E : ES} {F R : FS} (hR : ∀ s, Rest E F s (R s)) : Early (earlyE E R) (earlyF F R) (fun s => ∃ r, R s = some r) :=
  ⟨fun _ ⟨_, h⟩ => rest_early hR h, fun _ _ _ _ _ h => (early_some hR h).1⟩

/-- alike states have alike entries -/
theorem Early.ent {E : ES} {F : FS} {S : Nat → Prop} (X : Early E F S) {E' : ES} {F' : FS} {S' : Nat → Prop} (X' : Early E' F' S') {s t : Nat} (hs : S s) (ht : S' t) (h : ∀ w, run E F s w = run E' F' t w) {a : Nat} :
    (E s a = none ∧ E' t a = none) ∨ ∃ p x y, E s a = some (p, x) ∧ E' t a = some (p, y) ∧ S x ∧ S' y ∧ ∀ w, run E F x w = run E' F' y w := by
  cases e : E s a with
  | none =>
    refine .inl ⟨rfl, ?_⟩
    cases e' : E' t a with
    | none => rfl
    | some qy =>
      obtain ⟨q, y⟩ := qy
      obtain ⟨⟨w, k⟩, _⟩ := X'.rest y (X'.inn _ _ _ _ ht e')
      have z := h (a :: w)
      rw [run_none e, run_some e', k] at z
      cases z
  | some px =>
    obtain ⟨p, x⟩ := px
    cases e' : E' t a with
    | none =>
      obtain ⟨⟨w, k⟩, _⟩ := X.rest x (X.inn _ _ _ _ hs e)
      have z := h (a :: w)
      rw [run_some e, run_none e', k] at z
      cases z
    | some qy =>
      obtain ⟨q, y⟩ := qy
      have hx := X.inn _ _ _ _ hs e
      have hy := X'.inn _ _ _ _ ht e'
      have eq : p = q := by
        obtain ⟨⟨w, k⟩, m⟩ := X.rest x hx
        obtain ⟨⟨w', k'⟩, m'⟩ := X'.rest y hy
        have z := h (a :: w)
        rw [run_some e, run_some e', k] at z
        have z' := h (a :: w')
        rw [run_some e, run_some e', k'] at z'
        cases c : run E' F' y w with
        | none => rw [c] at z; cases z
        | some v =>
          rw [c] at z
          cases c' : run E F x w' with
          | none => rw [c'] at z'; cases z'
          | some v' =>
            rw [c'] at z'
            have := m' _ _ c
            have := m _ _ c'
            have z1 : p + 0 = q + v := by simpa using z
            have z2 : p + v' = q + 0 := by simpa using z'
            omega
      subst eq
      refine .inr ⟨p, x, y, rfl, rfl, hx, hy, fun w => ?_⟩
      have z := h (a :: w)
      rw [run_some e, run_some e'] at z
      cases c : run E F x w with
      | none =>
        cases c' : run E' F' y w with
        | none => rfl
        | some v => rw [c, c'] at z; cases z
      | some v =>
        cases c' : run E' F' y w with
        | none => rw [c, c'] at z; cases z
        | some v' =>
          rw [c, c'] at z
          have : p + v = p + v' := by simpa using z
          congr 1; omega

/-! ### marks -/
/-- an entry by the mark of the state it leads to -/
def mk (M : Nat → Nat) : Ent → Option (Int × Nat) := fun e => e.map fun x => (x.1, M x.2)
/-- alike states have equal marks -/
def Coarse (E : ES) (F : FS) (S : Nat → Prop) (M : Nat → Nat) : Prop := ∀ s t, S s → S t → Eqv E F s t → M s = M t
/-- equal marks: equal ends, equal entries by marks -/
def Stable (E : ES) (F : FS) (S : Nat → Prop) (M : Nat → Nat) : Prop := ∀ s t, S s → S t → M s = M t → F s = F t ∧ ∀ a, mk M (E s a) = mk M (E t a)

theorem coarse_first {E : ES} {F : FS} {S : Nat → Prop} {M : Nat → Nat} (h : ∀ s t, S s → S t → F s = F t → M s = M t) : Coarse E F S M := fun s t hs ht e => h s t hs ht (e [])
theorem coarse_next {E : ES} {F : FS} {S : Nat → Prop} {M M' : Nat → Nat} (X : Early E F S) (h : Coarse E F S M) (h' : ∀ s t, S s → S t → M s = M t → (∀ a, mk M (E s a) = mk M (E t a)) → M' s = M' t) : Coarse E F S M' := fun s t hs ht e => by
  refine h' s t hs ht (h s t hs ht e) fun a => ?_
  rcases X.ent X hs ht e (a := a) with ⟨e1, e2⟩ | ⟨p, x, y, e1, e2, hx, hy, k⟩
  · rw [e1, e2]
  · rw [e1, e2]
    show some (p, M x) = some (p, M y)
    rw [h x y hx hy k]
theorem stable_eqv {E : ES} {F : FS} {S : Nat → Prop} {M : Nat → Nat} (hin : ∀ s a p t, S s → E s a = some (p, t) → S t) (h : Stable E F S M) : ∀ (w : List Nat) (s t : Nat), S s → S t → M s = M t → run E F s w = run E F t w
  | [], s, t, hs, ht, e => (h s t hs ht e).1
  | a :: w, s, t, hs, ht, e => by
    have k := (h s t hs ht e).2 a
    cases e1 : E s a with
    | none =>
      cases e2 : E t a with
      | none => rw [run_none e1, run_none e2]
      | some y => rw [e1, e2] at k; cases k
    | some x =>
      cases e2 : E t a with
      | none => rw [e1, e2] at k; cases k
      | some y =>
        obtain ⟨p, x⟩ := x
        obtain ⟨q, y⟩ := y
        rw [e1, e2] at k
        have k' : some (p, M x) = some (q, M y) := k
        simp only [Option.some.injEq, Prod.mk.injEq] at k'
        rw [run_some e1, run_some e2, stable_eqv hin h w x y (hin _ _ _ _ hs e1) (hin _ _ _ _ ht e2) k'.2, k'.1]

/-! ### counting -/
theorem nodup_sub : ∀ (l k : List Nat), l.Nodup → (∀ x ∈ l, x ∈ k) → l.length ≤ k.length
  | [], _, _, _ => Nat.zero_le _
  | a :: l, k, hn, hs => by
    rw [List.nodup_cons] at hn
    have ha : a ∈ k := hs a List.mem_cons_self
    have ih := nodup_sub l (k.erase a) hn.2 fun x hx => by
      have ne : x ≠ a := fun e => hn.1 (e ▸ hx)
      exact (List.mem_erase_of_ne ne).mpr (hs x (List.mem_cons_of_mem _ hx))
    rw [List.length_erase_of_mem ha] at ih
    have : 0 < k.length := List.length_pos_of_mem ha
    simp only [List.length_cons]
    omega
theorem nodup_sub' {α : Type} [DecidableEq α] : ∀ (l k : List α), l.Nodup → (∀ x ∈ l, x ∈ k) → l.length ≤ k.length
  | [], _, _, _ => Nat.zero_le _
  | a :: l, k, hn, hs => by
    rw [List.nodup_cons] at hn
    have ha : a ∈ k := hs a List.mem_cons_self
    have ih := nodup_sub' l (k.erase a) hn.2 fun x hx => by
      have ne : x ≠ a := fun e => hn.1 (e ▸ hx)
      exact (List.mem_erase_of_ne ne).mpr (hs x (List.mem_cons_of_mem _ hx))
    rw [List.length_erase_of_mem ha] at ih
    have : 0 < k.length := List.length_pos_of_mem ha
    simp only [List.length_cons]
    omega
theorem nodup_lt {l : List Nat} {n : Nat} (h : l.Nodup) (k : ∀ x ∈ l, x < n) : l.length ≤ n := by
  have := nodup_sub l (List.range n) h fun x hx => List.mem_range.mpr (k x hx)
  rwa [List.length_range] at this

/-! ### numbering keys as they come first -/
section
variable {κ : Type} [DecidableEq κ]
/-- the different ones, as they come first -/
def uniqGo : List κ → List κ → List κ
  | seen, [] => seen
  | seen, k :: ks => if k ∈ seen then uniqGo seen ks else uniqGo (seen ++ [k]) ks
def uniq (ks : List κ) : List κ := uniqGo [] ks
def numbered (ks : List κ) : List Nat := ks.map fun k => (uniq ks).idxOf k

theorem uniqGo_nodup : ∀ (ks seen : List κ), seen.Nodup → (uniqGo seen ks).Nodup
  | [], _, h => h
  | k :: ks, seen, h => by
    unfold uniqGo
    split
    · exact uniqGo_nodup ks seen h
    · refine uniqGo_nodup ks _ ?_
      rw [List.nodup_append]
      refine ⟨h, by simp, fun a ha b hb => ?_⟩
      have : b = k := by simpa using hb
      subst this
      rintro rfl
      contradiction
theorem uniqGo_pre : ∀ (ks seen : List κ), ∃ l, uniqGo seen ks = seen ++ l
  | [], seen => ⟨[], by simp [uniqGo]⟩
  | k :: ks, seen => by
    unfold uniqGo
    split
    · exact uniqGo_pre ks seen
    · obtain ⟨l, h⟩ := uniqGo_pre ks (seen ++ [k])
      exact ⟨k :: l, by rw [h, List.append_assoc]; rfl⟩
theorem mem_uniqGo : ∀ (ks seen : List κ) (x : κ), x ∈ uniqGo seen ks ↔ x ∈ seen ∨ x ∈ ks
  | [], seen, x => by simp [uniqGo]
  | k :: ks, seen, x => by
    unfold uniqGo
    split
    · rename_i h
      rw [mem_uniqGo ks seen x]
      constructor
      · rintro (h1 | h1)
        · exact .inl h1
        · exact .inr (List.mem_cons_of_mem _ h1)
      · rintro (h1 | h1)
        · exact .inl h1
        · rcases List.mem_cons.mp h1 with rfl | h1
          · exact .inl h
          · exact .inr h1
    · rw [mem_uniqGo ks _ x]
      simp only [List.mem_append, List.mem_cons, List.not_mem_nil, or_false]
      constructor
      · rintro ((h1 | h1) | h1)
        · exact .inl h1
        · exact .inr (.inl h1)
        · exact .inr (.inr h1)
      · rintro (h1 | h1 | h1)
        · exact .inl (.inl h1)
        · exact .inl (.inr h1)
        · exact .inr h1
theorem uniqGo_cons (k : κ) (ks seen : List κ) : uniqGo seen (k :: ks) = if k ∈ seen then uniqGo seen ks else uniqGo (seen ++ [k]) ks := by rw [uniqGo]
theorem uniqGo_nil (seen : List κ) : uniqGo seen [] = seen := by rw [uniqGo]
theorem uniqGo_append : ∀ (ks ls seen : List κ), uniqGo seen (ks ++ ls) = uniqGo (uniqGo seen ks) ls
  | [], ls, seen => by rw [uniqGo_nil]; rfl
  | k :: ks, ls, seen => by
    rw [List.cons_append, uniqGo_cons, uniqGo_cons]
    split
    · exact uniqGo_append ks ls seen
    · exact uniqGo_append ks ls _
theorem mem_uniq {ks : List κ} {x : κ} : x ∈ uniq ks ↔ x ∈ ks := by
  unfold uniq
  rw [mem_uniqGo]
  simp
theorem uniq_nodup (ks : List κ) : (uniq ks).Nodup := uniqGo_nodup ks [] List.nodup_nil
theorem uniq_snoc (ks : List κ) (k : κ) : uniq (ks ++ [k]) = if k ∈ uniq ks then uniq ks else uniq ks ++ [k] := by
  unfold uniq
  rw [uniqGo_append, uniqGo_cons, uniqGo_nil, uniqGo_nil]
/-- a number is told at once: what comes behind does not change it -/
theorem idx_uniq_more {ks ls : List κ} {x : κ} (h : x ∈ ks) : (uniq (ks ++ ls)).idxOf x = (uniq ks).idxOf x := by
  unfold uniq
  rw [uniqGo_append]
  obtain ⟨l, e⟩ := uniqGo_pre ls (uniqGo [] ks)
  rw [e]
  rw [List.idxOf_append]
  rw [if_pos]
  rw [mem_uniqGo]
  exact .inr h
theorem numbered_snoc (ks : List κ) (k : κ) : numbered (ks ++ [k]) = numbered ks ++ [(uniq (ks ++ [k])).idxOf k] := by
  unfold numbered
  rw [List.map_append]
  congr 1
  refine List.map_congr_left fun x hx => idx_uniq_more hx
theorem idx_inj {l : List κ} {x y : κ} (hx : x ∈ l) (h : l.idxOf x = l.idxOf y) : x = y := by
  have h1 : l.idxOf x < l.length := List.idxOf_lt_length_of_mem hx
  have e1 : l[l.idxOf x]'h1 = x := List.getElem_idxOf h1
  have h2 : l.idxOf y < l.length := h ▸ h1
  have e2 : l[l.idxOf y]'h2 = y := List.getElem_idxOf h2
  rw [← e1, ← e2]
  congr 1
theorem numbered_length (ks : List κ) : (numbered ks).length = ks.length := by unfold numbered; rw [List.length_map]
theorem numbered_get {ks : List κ} {i : Nat} {k : κ} (h : ks[i]? = some k) : (numbered ks)[i]? = some ((uniq ks).idxOf k) := by
  unfold numbered
  rw [List.getElem?_map, h]
  rfl
theorem numbered_eq_iff {ks : List κ} {i j : Nat} {k l : κ} (hi : ks[i]? = some k) (hj : ks[j]? = some l) : (numbered ks)[i]? = (numbered ks)[j]? ↔ k = l := by
  rw [numbered_get hi, numbered_get hj]
  constructor
  · intro e
    exact idx_inj (mem_uniq.mpr (List.mem_of_getElem? hi)) (Option.some.inj e)
  · rintro rfl
    rfl
theorem numbered_lt {ks : List κ} {x : Nat} (h : x ∈ numbered ks) : x < (uniq ks).length := by
  unfold numbered at h
  obtain ⟨k, hk, rfl⟩ := List.mem_map.mp h
  exact List.idxOf_lt_length_of_mem (mem_uniq.mpr hk)
theorem uniq_le (ks : List κ) : (uniq ks).length ≤ ks.length := nodup_sub' _ _ (uniq_nodup ks) fun _ hx => mem_uniq.mp hx
/-- each lesser number stands -/
theorem numbered_all {ks : List κ} {x : Nat} (h : x < (uniq ks).length) : x ∈ numbered ks := by
  unfold numbered
  have hm : (uniq ks)[x] ∈ uniq ks := List.getElem_mem h
  refine List.mem_map.mpr ⟨(uniq ks)[x], mem_uniq.mp hm, ?_⟩
  exact (uniq_nodup ks).idxOf_getElem x h
end

/-- keys told more closely: at least as many; if no more, then not more closely -/
theorem uniq_fine {κ κ' : Type} [DecidableEq κ] [DecidableEq κ'] (f : κ' → κ) (ks : List κ') :
    (uniq (ks.map f)).length ≤ (uniq ks).length ∧ ((uniq (ks.map f)).length = (uniq ks).length → ∀ x ∈ ks, ∀ y ∈ ks, f x = f y → x = y) := by
  have hsub : ∀ z ∈ uniq (ks.map f), z ∈ (uniq ks).map f := fun z hz => by
    obtain ⟨x, hx, rfl⟩ := List.mem_map.mp (mem_uniq.mp hz)
    exact List.mem_map.mpr ⟨x, mem_uniq.mpr hx, rfl⟩
  refine ⟨by simpa using nodup_sub' _ _ (uniq_nodup _) hsub, fun e x hx y hy hxy => ?_⟩
  by_cases h : x = y
  · exact h
  · exfalso
    have hx' := mem_uniq.mpr hx
    have hy' := mem_uniq.mpr hy
    have : (uniq (ks.map f)).length ≤ (((uniq ks).erase x).map f).length := nodup_sub' _ _ (uniq_nodup _) fun z hz => by
      obtain ⟨v, hv, rfl⟩ := List.mem_map.mp (hsub z hz)
      by_cases hvx : v = x
      · subst hvx
        rw [hxy]
        exact List.mem_map.mpr ⟨y, (List.mem_erase_of_ne (Ne.symm h)).mpr hy', rfl⟩
      · exact List.mem_map.mpr ⟨v, (List.mem_erase_of_ne hvx).mpr hv, rfl⟩
    rw [List.length_map, List.length_erase_of_mem hx'] at this
    have : 0 < (uniq ks).length := List.length_pos_of_mem hx'
    omega
end Ladm

/-! Ladders, plain: least ladders; there is one at most; the search makes one. -/
namespace Ladm

structure Lad where
  first : Int
  rows : Rows
  ends : Tips
  deriving DecidableEq

def Lad.cost (L : Lad) (w : List Nat) : Option Int := (run (ent L.rows) (tip L.ends) 0 w).map (L.first + ·)

structure Wf (m : Nat) (L : Lad) : Prop where
  pos : 0 < L.rows.length
  len : L.ends.length = L.rows.length
  row : ∀ r ∈ L.rows, r.length = m
  to : ∀ s a p t, ent L.rows s a = some (p, t) → t < L.rows.length

def noneLad (m : Nat) : Lad := ⟨0, [List.replicate m none], [none]⟩

def scanRow : Nat → List Ent → Option Nat
  | k, [] => some k
  | k, none :: r => scanRow k r
  | k, some (_, t) :: r => if t < k then scanRow k r else if t = k then scanRow (k + 1) r else none
def scanRows : Nat → Nat → Rows → Option Nat
  | _, k, [] => some k
  | i, k, r :: rs => if i < k then (scanRow k r).bind fun k' => scanRows (i + 1) k' rs else none

/-- all states lead on at no cost at least; no two are alike; they are numbered as they come first -/
structure Slim (L : Lad) : Prop where
  rest : ∀ s, s < L.rows.length → Rest (ent L.rows) (tip L.ends) s (some 0)
  apart : ∀ s t, s < L.rows.length → t < L.rows.length → Eqv (ent L.rows) (tip L.ends) s t → s = t
  scan : scanRows 0 1 L.rows = some L.rows.length
structure IsLeast (m : Nat) (L : Lad) : Prop where
  wf : Wf m L
  slim : L = noneLad m ∨ Slim L

theorem Slim.early {m : Nat} {L : Lad} (w : Wf m L) (h : Slim L) : Early (ent L.rows) (tip L.ends) (· < L.rows.length) :=
  ⟨h.rest, fun s a p t _ e => w.to s a p t e⟩

inductive RelE (E E' : ES) (F F' : FS) (n n' : Nat) : Ent → Ent → Prop
  | none : RelE E E' F F' n n' none none
  | some {p : Int} {x y : Nat} : x < n → y < n' → (∀ w, run E F x w = run E' F' y w) → RelE E E' F F' n n' (some (p, x)) (some (p, y))
inductive RelR (E E' : ES) (F F' : FS) (n n' : Nat) : List Ent → List Ent → Prop
  | nil : RelR E E' F F' n n' [] []
  | cons {e e' : Ent} {r r' : List Ent} : RelE E E' F F' n n' e e' → RelR E E' F F' n n' r r' → RelR E E' F F' n n' (e :: r) (e' :: r')

theorem relR_of {E E' : ES} {F F' : FS} {n n' : Nat} : ∀ (r r' : List Ent), r.length = r'.length → (∀ a, a < r.length → RelE E E' F F' n n' ((r[a]?).getD none) ((r'[a]?).getD none)) → RelR E E' F F' n n' r r'
  | [], [], _, _ => .nil
  | [], _ :: _, h, _ => by simp at h
  | _ :: _, [], h, _ => by simp at h
  | e :: r, e' :: r', h, k => .cons (by simpa using k 0 (by simp)) (relR_of r r' (by simpa using h) fun a ha => by simpa using k (a + 1) (by simpa using ha))

section
variable {E E' : ES} {F F' : FS} {n n' : Nat}
theorem scan_row (ap : ∀ s t, s < n → t < n → Eqv E F s t → s = t) (ap' : ∀ s t, s < n' → t < n' → Eqv E' F' s t → s = t) :
    ∀ {r r' : List Ent} (k k2 k2' : Nat), RelR E E' F F' n n' r r' → k ≤ n → k ≤ n' → (∀ j, j < k → ∀ w, run E F j w = run E' F' j w) → scanRow k r = some k2 → scanRow k r' = some k2' →
      r = r' ∧ k2 = k2' ∧ k2 ≤ n ∧ k2 ≤ n' ∧ (∀ j, j < k2 → ∀ w, run E F j w = run E' F' j w) := by
  intro r r' k k2 k2' hr
  induction hr generalizing k with
  | nil =>
    intro h1 h2 hp e e'
    cases e; cases e'
    exact ⟨rfl, rfl, h1, h2, hp⟩
  | cons he _ ih =>
    intro h1 h2 hp e e'
    cases he with
    | none =>
      obtain ⟨a, b⟩ := ih k h1 h2 hp e e'
      exact ⟨by rw [a], b⟩
    | @some p x y hx hy hxy =>
      simp only [scanRow] at e e'
      by_cases c : x < k
      · have eyx : y = x := ap' y x hy (by omega) fun w => (hxy w).symm.trans (hp x c w)
        subst eyx
        rw [if_pos c] at e e'
        obtain ⟨a, b⟩ := ih k h1 h2 hp e e'
        exact ⟨by rw [a], b⟩
      · have c' : ¬ y < k := fun z => c (by
          have : x = y := ap x y hx (by omega) fun w => (hxy w).trans (hp y z w).symm
          omega)
        rw [if_neg c] at e
        rw [if_neg c'] at e'
        by_cases d : x = k
        · by_cases d' : y = k
          · rw [if_pos d] at e
            rw [if_pos d'] at e'
            subst d
            subst d'
            obtain ⟨a, b⟩ := ih (y + 1) (by omega) (by omega) (fun j hj w => by
              by_cases hjy : j < y
              · exact hp j hjy w
              · have : j = y := by omega
                subst this
                exact hxy w) e e'
            exact ⟨by rw [a], b⟩
          · rw [if_neg d'] at e'; cases e'
        · rw [if_neg d] at e; cases e
end

theorem ent_drop {rows : Rows} {i a : Nat} {r : List Ent} {R : Rows} (h : rows.drop i = r :: R) : ent rows i a = (r[a]?).getD none := by
  have : rows[i]? = some r := by
    have := congrArg (fun l => l[0]?) h
    simpa using this
  unfold ent
  rw [this]
  rfl
theorem mem_drop {rows : Rows} {i : Nat} {r : List Ent} {R : Rows} (h : rows.drop i = r :: R) : r ∈ rows ∧ i < rows.length ∧ rows.drop (i + 1) = R := by
  refine ⟨?_, ?_, ?_⟩
  · exact List.mem_of_mem_drop (i := i) (by rw [h]; exact List.mem_cons_self)
  · have := congrArg List.length h
    simp only [List.length_drop, List.length_cons] at this
    omega
  · rw [← List.drop_drop, h]
    rfl

theorem scan_rows {m : Nat} {L L' : Lad} (w : Wf m L) (w' : Wf m L') (h : Slim L) (h' : Slim L') :
    ∀ (R R' : Rows) (i k : Nat), L.rows.drop i = R → L'.rows.drop i = R' → i ≤ L.rows.length → i ≤ L'.rows.length → k ≤ L.rows.length → k ≤ L'.rows.length →
      (∀ j, j < k → ∀ w, run (ent L.rows) (tip L.ends) j w = run (ent L'.rows) (tip L'.ends) j w) → scanRows i k R = some L.rows.length → scanRows i k R' = some L'.rows.length →
      R = R' ∧ L.rows.length = L'.rows.length ∧ (∀ j, j < L.rows.length → ∀ w, run (ent L.rows) (tip L.ends) j w = run (ent L'.rows) (tip L'.ends) j w)
  | [], R', i, k, hR, hR', hi, hi', hk, hk', hp, e, e' => by
    have hin : L.rows.length ≤ i := List.drop_eq_nil_iff.mp hR
    simp only [scanRows, Option.some.injEq] at e
    cases R' with
    | nil =>
      simp only [scanRows, Option.some.injEq] at e'
      exact ⟨rfl, by omega, fun j hj => hp j (by omega)⟩
    | cons r' R' =>
      simp only [scanRows] at e'
      rw [if_neg (by omega)] at e'
      cases e'
  | r :: R, [], i, k, hR, hR', hi, hi', hk, hk', hp, e, e' => by
    have hin : L'.rows.length ≤ i := List.drop_eq_nil_iff.mp hR'
    simp only [scanRows, Option.some.injEq] at e'
    simp only [scanRows] at e
    rw [if_neg (by omega)] at e
    cases e
  | r :: R, r' :: R', i, k, hR, hR', hi, hi', hk, hk', hp, e, e' => by
    obtain ⟨mr, li, dr⟩ := mem_drop hR
    obtain ⟨mr', li', dr'⟩ := mem_drop hR'
    simp only [scanRows] at e e'
    by_cases c : i < k
    · rw [if_pos c] at e e'
      cases s : scanRow k r with
      | none => rw [s] at e; cases e
      | some k2 =>
        cases s' : scanRow k r' with
        | none => rw [s'] at e'; cases e'
        | some k2' =>
          rw [s] at e
          rw [s'] at e'
          have rel : RelR (ent L.rows) (ent L'.rows) (tip L.ends) (tip L'.ends) L.rows.length L'.rows.length r r' := by
            refine relR_of r r' ((w.row r mr).trans (w'.row r' mr').symm) fun a ha => ?_
            rw [← ent_drop (a := a) hR, ← ent_drop (a := a) hR']
            rcases (h.early w).ent (h'.early w') li li' (hp i c) (a := a) with ⟨e1, e2⟩ | ⟨p, x, y, e1, e2, hx, hy, q⟩
            · rw [e1, e2]; exact .none
            · rw [e1, e2]; exact .some hx hy q
          obtain ⟨q1, q2, q3, q4, q5⟩ := scan_row h.apart h'.apart k k2 k2' rel hk hk' hp s s'
          subst q2
          obtain ⟨z1, z2⟩ := scan_rows w w' h h' R R' (i + 1) k2 dr dr' (by omega) (by omega) q3 q4 q5 e e'
          exact ⟨by rw [q1, z1], z2⟩
    · rw [if_neg c] at e
      cases e

theorem least_uniq {m : Nat} {L L' : Lad} (h : IsLeast m L) (h' : IsLeast m L') (hc : ∀ w, L.cost w = L'.cost w) : L = L' := by
  have nn : ∀ {L : Lad}, Wf m L → Slim L → ∃ w, L.cost w = some L.first := fun {L} w s => by
    obtain ⟨⟨v, e⟩, _⟩ := s.rest 0 w.pos
    exact ⟨v, by unfold Lad.cost; rw [e]; simp⟩
  have cn : ∀ w, (noneLad m).cost w = none := fun w => by
    unfold Lad.cost noneLad
    cases w with
    | nil => rfl
    | cons a w =>
      have : ent [List.replicate m none] 0 a = none := by
        unfold ent
        by_cases ha : a < m
        · simp [ha]
        · simp [List.getElem?_eq_none (l := List.replicate m (none : Ent)) (i := a) (by simpa using ha)]
      rw [run_none this]; rfl
  rcases h.slim with e | s
  · rcases h'.slim with e' | s'
    · rw [e, e']
    · exfalso
      obtain ⟨w, k⟩ := nn h'.wf s'
      rw [← hc w, e, cn] at k
      cases k
  · rcases h'.slim with e' | s'
    · exfalso
      obtain ⟨w, k⟩ := nn h.wf s
      rw [hc w, e', cn] at k
      cases k
    · have first : L.first = L'.first := by
        obtain ⟨⟨w, e⟩, mn⟩ := s.rest 0 h.wf.pos
        obtain ⟨⟨w', e'⟩, mn'⟩ := s'.rest 0 h'.wf.pos
        have z := hc w
        have z' := hc w'
        unfold Lad.cost at z z'
        rw [e] at z
        rw [e'] at z'
        cases c : run (ent L'.rows) (tip L'.ends) 0 w with
        | none => rw [c] at z; cases z
        | some v =>
          cases c' : run (ent L.rows) (tip L.ends) 0 w' with
          | none => rw [c'] at z'; cases z'
          | some v' =>
            rw [c] at z
            rw [c'] at z'
            have := mn' _ _ c
            have := mn _ _ c'
            have z1 : L.first + 0 = L'.first + v := by simpa using z
            have z2 : L.first + v' = L'.first + 0 := by simpa using z'
            omega
      have hp : ∀ j, j < 1 → ∀ w, run (ent L.rows) (tip L.ends) j w = run (ent L'.rows) (tip L'.ends) j w := fun j hj w => by
        have : j = 0 := by omega
        subst this
        have z := hc w
        unfold Lad.cost at z
        rw [first] at z
        cases c : run (ent L.rows) (tip L.ends) 0 w with
        | none =>
          cases c' : run (ent L'.rows) (tip L'.ends) 0 w with
          | none => rfl
          | some v => rw [c, c'] at z; cases z
        | some v =>
          cases c' : run (ent L'.rows) (tip L'.ends) 0 w with
          | none => rw [c, c'] at z; cases z
          | some v' =>
            rw [c, c'] at z
            have : L'.first + v = L'.first + v' := by simpa using z
            congr 1; omega
      obtain ⟨q1, q2, q3⟩ := scan_rows h.wf h'.wf s s' L.rows L'.rows 0 1 rfl rfl (Nat.zero_le _) (Nat.zero_le _) h.wf.pos h'.wf.pos hp s.scan s'.scan
      have q4 : L.ends = L'.ends := by
        refine List.ext_getElem? fun j => ?_
        by_cases hj : j < L.rows.length
        · have z := q3 j hj []
          simp only [run, tip] at z
          have h1 : j < L.ends.length := by rw [h.wf.len]; exact hj
          have h2 : j < L'.ends.length := by rw [h'.wf.len, ← q2]; exact hj
          rw [List.getElem?_eq_getElem h1, List.getElem?_eq_getElem h2] at z ⊢
          simpa using z
        · rw [List.getElem?_eq_none (by rw [h.wf.len]; omega), List.getElem?_eq_none (by rw [h'.wf.len]; omega)]
      obtain ⟨a, b, c⟩ := L
      obtain ⟨a', b', c'⟩ := L'
      simp only at first q1 q4
      rw [first, q1, q4]

/-! ### the search that numbers the classes -/
/-- an entry by the number of the class it leads to -/
def numE (M : Nat → Nat) (order : List Nat) : Ent → Ent := fun e => e.map fun x => (x.1, (order.map M).idxOf (M x.2))
def grow (M : Nat → Nat) (order : List Nat) : Ent → List Nat
  | none => order
  | some (_, t) => if M t ∈ order.map M then order else order ++ [t]
/-- one entry: the order grows; the row too -/
def bfsStep (M : Nat → Nat) (st : List Nat × List Ent) (e : Ent) : List Nat × List Ent := (grow M st.1 e, st.2 ++ [numE M (grow M st.1 e) e])

theorem grow_pre (M : Nat → Nat) (order : List Nat) (e : Ent) : ∃ l, grow M order e = order ++ l := by
  cases e with
  | none => exact ⟨[], by simp [grow]⟩
  | some x =>
    unfold grow
    by_cases h : M x.2 ∈ order.map M
    · exact ⟨[], by simp [h]⟩
    · exact ⟨[x.2], by simp [h]⟩
theorem idx_more {M : Nat → Nat} {order l : List Nat} {t : Nat} (h : M t ∈ order.map M) : ((order ++ l).map M).idxOf (M t) = (order.map M).idxOf (M t) := by
  rw [List.map_append, List.idxOf_append, if_pos h]

structure RowInv (M : Nat → Nat) (S : Nat → Prop) (order : List Nat) (es : List Ent) (st : List Nat × List Ent) : Prop where
  pre : ∃ l, st.1 = order ++ l
  inn : ∀ s ∈ st.1, S s
  nd : (st.1.map M).Nodup
  mem : ∀ p t, some (p, t) ∈ es → M t ∈ st.1.map M
  row : st.2 = es.map (numE M st.1)
  scan : scanRow order.length st.2 = some st.1.length

theorem scanRow_snoc : ∀ (r : List Ent) (k k2 : Nat) (e : Ent), scanRow k r = some k2 → scanRow k (r ++ [e]) = scanRow k2 [e]
  | [], k, k2, e, h => by
    simp only [scanRow, Option.some.injEq] at h
    subst h
    rfl
  | none :: r, k, k2, e, h => scanRow_snoc r k k2 e h
  | some (p, t) :: r, k, k2, e, h => by
    simp only [List.cons_append, scanRow] at h ⊢
    split
    · rename_i c
      rw [if_pos c] at h
      exact scanRow_snoc r k k2 e h
    · rename_i c
      rw [if_neg c] at h
      split
      · rename_i d
        rw [if_pos d] at h
        exact scanRow_snoc r (k + 1) k2 e h
      · rename_i d
        rw [if_neg d] at h
        cases h

theorem RowInv.start {M : Nat → Nat} {S : Nat → Prop} {order : List Nat} (hi : ∀ s ∈ order, S s) (hn : (order.map M).Nodup) : RowInv M S order [] (order, []) :=
  ⟨⟨[], by simp⟩, hi, hn, fun _ _ h => (by simp at h), rfl, rfl⟩
theorem RowInv.step {M : Nat → Nat} {S : Nat → Prop} {order : List Nat} {es : List Ent} {st : List Nat × List Ent} (h : RowInv M S order es st) (e : Ent) (he : ∀ p t, e = some (p, t) → S t) : RowInv M S order (es ++ [e]) (bfsStep M st e) := by
  obtain ⟨o, r⟩ := st
  obtain ⟨⟨l, pre⟩, inn, nd, mem, row, scan⟩ := h
  simp only at pre inn nd mem row scan
  cases e with
  | none =>
    refine ⟨⟨l, pre⟩, inn, nd, fun p t q => ?_, ?_, ?_⟩
    · rcases List.mem_append.mp q with q | q
      · exact mem p t q
      · simp at q
    · show r ++ [none] = _
      rw [List.map_append, row]
      rfl
    · show scanRow order.length (r ++ [none]) = some o.length
      rw [scanRow_snoc _ _ _ _ scan]
      rfl
  | some x =>
    obtain ⟨p, t⟩ := x
    have hS := he p t rfl
    by_cases c : M t ∈ o.map M
    · have g : grow M o (some (p, t)) = o := by
        show (if M t ∈ o.map M then o else o ++ [t]) = o
        rw [if_pos c]
      unfold bfsStep
      rw [g]
      refine ⟨⟨l, pre⟩, inn, nd, fun p' t' q => ?_, ?_, ?_⟩
      · rcases List.mem_append.mp q with q | q
        · exact mem p' t' q
        · simp at q
          obtain ⟨_, rfl⟩ := q
          exact c
      · show r ++ [_] = _
        rw [List.map_append, row]
        rfl
      · show scanRow order.length (r ++ [_]) = some o.length
        rw [scanRow_snoc _ _ _ _ scan]
        have lt : (o.map M).idxOf (M t) < o.length := by
          have := List.idxOf_lt_length_of_mem c
          rwa [List.length_map] at this
        show scanRow o.length [some (p, (o.map M).idxOf (M t))] = some o.length
        simp only [scanRow]
        rw [if_pos lt]
    · have g : grow M o (some (p, t)) = o ++ [t] := by
        show (if M t ∈ o.map M then o else o ++ [t]) = o ++ [t]
        rw [if_neg c]
      unfold bfsStep
      rw [g]
      refine ⟨⟨l ++ [t], ?_⟩, fun s hs => ?_, ?_, fun p' t' q => ?_, ?_, ?_⟩
      · show o ++ [t] = _
        rw [pre, List.append_assoc]
      · rcases List.mem_append.mp hs with q | q
        · exact inn s q
        · have : s = t := by simpa using q
          rw [this]; exact hS
      · show ((o ++ [t]).map M).Nodup
        rw [List.map_append, List.nodup_append]
        refine ⟨nd, by simp, fun a ha b hb => ?_⟩
        have : b = M t := by simpa using hb
        subst this
        rintro rfl
        exact c ha
      · show M t' ∈ (o ++ [t]).map M
        rw [List.map_append]
        rcases List.mem_append.mp q with q | q
        · exact List.mem_append_left _ (mem p' t' q)
        · simp at q
          obtain ⟨_, rfl⟩ := q
          exact List.mem_append_right _ (by simp)
      · show r ++ [_] = _
        rw [List.map_append, row]
        congr 1
        refine List.map_congr_left fun e he => ?_
        cases e with
        | none => rfl
        | some y =>
          obtain ⟨p', t'⟩ := y
          show some (p', _) = some (p', _)
          rw [idx_more (mem p' t' he)]
      · show scanRow order.length (r ++ [_]) = some (o ++ [t]).length
        rw [scanRow_snoc _ _ _ _ scan]
        have ix : ((o ++ [t]).map M).idxOf (M t) = o.length := by
          rw [List.map_append, List.idxOf_append, if_neg c]
          simp
        show scanRow o.length [some (p, ((o ++ [t]).map M).idxOf (M t))] = _
        rw [ix]
        simp [scanRow]

/-- behind some rows -/
structure Bfs (E : ES) (M : Nat → Nat) (S : Nat → Prop) (m : Nat) (order : List Nat) (rows : Rows) : Prop where
  head : order[0]? = some 0
  inn : ∀ s ∈ order, S s
  nd : (order.map M).Nodup
  le : rows.length ≤ order.length
  row : ∀ (i s : Nat), i < rows.length → order[i]? = some s → rows[i]? = some ((List.range m).map fun a => numE M order (E s a))
  mem : ∀ (i s a : Nat) (p : Int) (t : Nat), i < rows.length → order[i]? = some s → a < m → E s a = some (p, t) → M t ∈ order.map M
  scan : scanRows 0 1 rows = some order.length

theorem Bfs.start {E : ES} {M : Nat → Nat} {S : Nat → Prop} {m : Nat} (h0 : S 0) : Bfs E M S m [0] [] :=
  ⟨rfl, fun s hs => (by simp at hs; rw [hs]; exact h0), by simp, Nat.zero_le _, fun i s hi => absurd hi (Nat.not_lt_zero _), fun i s a p t hi => absurd hi (Nat.not_lt_zero _), rfl⟩

theorem scanRows_snoc : ∀ (R : Rows) (i k k2 : Nat) (r : List Ent), scanRows i k R = some k2 → i + R.length < k2 → scanRows i k (R ++ [r]) = (scanRow k2 r)
  | [], i, k, k2, r, h, hlt => by
    simp only [scanRows, Option.some.injEq] at h
    subst h
    show scanRows i k (r :: []) = _
    simp only [scanRows]
    rw [if_pos (by simpa using hlt)]
    cases scanRow k r <;> rfl
  | r0 :: R, i, k, k2, r, h, hlt => by
    simp only [List.cons_append, scanRows] at h ⊢
    split
    · rename_i c
      rw [if_pos c] at h
      cases s : scanRow k r0 with
      | none => rw [s] at h; cases h
      | some k' =>
        rw [s] at h
        exact scanRows_snoc R (i + 1) k' k2 r h (by simp only [List.length_cons] at hlt; omega)
    · rename_i c
      rw [if_neg c] at h
      cases h

theorem Bfs.step {E : ES} {M : Nat → Nat} {S : Nat → Prop} {m s : Nat} {order : List Nat} {rows : Rows} (h : Bfs E M S m order rows) (hs : order[rows.length]? = some s) {st : List Nat × List Ent}
    (r : RowInv M S order ((List.range m).map (E s)) st) : Bfs E M S m st.1 (rows ++ [st.2]) := by
  obtain ⟨o, row⟩ := st
  obtain ⟨⟨l, pre⟩, inn, nd, mem, hrow, scan⟩ := r
  simp only at pre inn nd mem hrow scan
  have lt : rows.length < order.length := (List.getElem?_eq_some_iff.mp hs).1
  have old : ∀ i, i < order.length → o[i]? = order[i]? := fun i hi => by rw [pre, List.getElem?_append_left hi]
  refine ⟨?_, inn, nd, ?_, fun i x hi hx => ?_, fun i x a p t hi hx ha he => ?_, ?_⟩
  · rw [old 0 (by omega)]; exact h.head
  · simp only [List.length_append, List.length_cons, List.length_nil]
    rw [pre, List.length_append]
    omega
  · simp only [List.length_append, List.length_cons, List.length_nil] at hi
    by_cases c : i < rows.length
    · rw [old i (by omega)] at hx
      rw [List.getElem?_append_left c, h.row i x c hx]
      congr 1
      refine List.map_congr_left fun a ha => ?_
      cases e : E x a with
      | none => rfl
      | some y =>
        obtain ⟨p, t⟩ := y
        show some (p, _) = some (p, _)
        rw [pre, idx_more (h.mem i x a p t c hx (List.mem_range.mp ha) e)]
    · have : i = rows.length := by omega
      subst this
      rw [old _ lt, hs] at hx
      cases hx
      rw [List.getElem?_append_right (Nat.le_refl _), Nat.sub_self, List.getElem?_cons_zero, hrow, List.map_map]
      rfl
  · simp only [List.length_append, List.length_cons, List.length_nil] at hi
    by_cases c : i < rows.length
    · rw [old i (by omega)] at hx
      have := h.mem i x a p t c hx ha he
      rw [pre, List.map_append]
      exact List.mem_append_left _ this
    · have : i = rows.length := by omega
      subst this
      rw [old _ lt, hs] at hx
      cases hx
      exact mem p t (List.mem_map.mpr ⟨a, List.mem_range.mpr ha, he⟩)
  · rw [scanRows_snoc rows 0 1 order.length row h.scan (by omega)]
    exact scan

/-- the search's end: a least ladder with the costs from 0 on -/
theorem Bfs.end {E : ES} {F : FS} {M : Nat → Nat} {S : Nat → Prop} {m : Nat} {order : List Nat} {rows : Rows} (X : Early E F S) (st : Stable E F S M) (co : Coarse E F S M) (hm : ∀ s a, m ≤ a → E s a = none)
    (h : Bfs E M S m order rows) (hl : rows.length = order.length) (first : Int) :
    IsLeast m ⟨first, rows, order.map F⟩ ∧ Slim ⟨first, rows, order.map F⟩ ∧ (∀ w, Lad.cost ⟨first, rows, order.map F⟩ w = (run E F 0 w).map (first + ·)) := by
  have get : ∀ j s a, order[j]? = some s → ent rows j a = numE M order (E s a) := fun j s a hs => by
    have hj : j < rows.length := by rw [hl]; exact (List.getElem?_eq_some_iff.mp hs).1
    unfold ent
    rw [h.row j s hj hs]
    simp only [Option.getD_some]
    by_cases ha : a < m
    · rw [List.getElem?_map, List.getElem?_range ha]; rfl
    · rw [List.getElem?_eq_none (by simp; omega), hm s a (by omega)]; rfl
  have back : ∀ (w : List Nat) (j s : Nat), order[j]? = some s → run (ent rows) (tip (order.map F)) j w = run E F s w := by
    intro w
    induction w with
    | nil =>
      intro j s hs
      simp only [run, tip]
      rw [List.getElem?_map, hs]; rfl
    | cons a w ih =>
      intro j s hs
      have hj : j < rows.length := by rw [hl]; exact (List.getElem?_eq_some_iff.mp hs).1
      have hS : S s := h.inn s (List.mem_of_getElem? hs)
      have g := get j s a hs
      cases e : E s a with
      | none =>
        rw [e] at g
        rw [run_none e, run_none (show ent rows j a = none from g)]
      | some x =>
        obtain ⟨p, t⟩ := x
        rw [e] at g
        have ha : a < m := by
          by_cases c : a < m
          · exact c
          · rw [hm s a (by omega)] at e; cases e
        have g' : ent rows j a = some (p, (order.map M).idxOf (M t)) := g
        have hmem := h.mem j s a p t hj hs ha e
        have hlt := List.idxOf_lt_length_of_mem hmem
        have hlt' : (order.map M).idxOf (M t) < order.length := by rwa [List.length_map] at hlt
        have ho : order[(order.map M).idxOf (M t)]? = some (order[(order.map M).idxOf (M t)]) := List.getElem?_eq_getElem hlt'
        rw [run_some e, run_some g', ih _ _ ho]
        have hM : M (order[(order.map M).idxOf (M t)]) = M t := by
          have := List.getElem_idxOf hlt
          rwa [List.getElem_map] at this
        rw [stable_eqv X.inn st w _ t (h.inn _ (List.getElem_mem hlt')) (X.inn s a p t hS e) hM]
  have wf : Wf m ⟨first, rows, order.map F⟩ := by
    refine ⟨?_, ?_, fun r hr => ?_, fun s a p t e => ?_⟩
    · show 0 < rows.length
      rw [hl]; exact (List.getElem?_eq_some_iff.mp h.head).1
    · show (order.map F).length = rows.length
      rw [List.length_map, hl]
    · obtain ⟨i, hi⟩ := List.mem_iff_getElem?.mp hr
      have hi' : rows[i]? = some r := hi
      have lt := (List.getElem?_eq_some_iff.mp hi').1
      have lt' : i < order.length := by omega
      rw [h.row i order[i] lt (List.getElem?_eq_getElem lt')] at hi'
      cases hi'
      simp
    · show t < rows.length
      have e : ent rows s a = some (p, t) := e
      by_cases c : s < order.length
      · have hs : order[s]? = some order[s] := List.getElem?_eq_getElem c
        rw [get s _ a hs] at e
        cases k : E order[s] a with
        | none => rw [k] at e; cases e
        | some x =>
          obtain ⟨p0, t0⟩ := x
          rw [k] at e
          have ha : a < m := by
            by_cases c : a < m
            · exact c
            · rw [hm _ a (by omega)] at k; cases k
          have hmem := h.mem s order[s] a p0 t0 (by omega) hs ha k
          have e' : some (p0, (order.map M).idxOf (M t0)) = some (p, t) := e
          have hlt := List.idxOf_lt_length_of_mem hmem
          rw [List.length_map] at hlt
          simp only [Option.some.injEq, Prod.mk.injEq] at e'
          omega
      · have : ent rows s a = none := by
          unfold ent
          rw [List.getElem?_eq_none (show rows.length ≤ s by omega)]
          rfl
        rw [this] at e; cases e
  have slim : Slim ⟨first, rows, order.map F⟩ := by
    refine ⟨fun s hs => ?_, fun s t hs ht e => ?_, ?_⟩
    · have hs : s < rows.length := hs
      have lt : s < order.length := by omega
      have ho : order[s]? = some order[s] := List.getElem?_eq_getElem lt
      obtain ⟨⟨w, q⟩, mn⟩ := X.rest order[s] (h.inn _ (List.getElem_mem lt))
      refine ⟨⟨w, ?_⟩, fun w c e => ?_⟩
      · show run (ent rows) (tip (order.map F)) s w = some 0
        rw [back w s _ ho]; exact q
      · have e : run (ent rows) (tip (order.map F)) s w = some c := e
        rw [back w s _ ho] at e
        exact mn w c e
    · have hs : s < rows.length := hs
      have ht : t < rows.length := ht
      have ls : s < order.length := by omega
      have lt : t < order.length := by omega
      have e : ∀ w, run (ent rows) (tip (order.map F)) s w = run (ent rows) (tip (order.map F)) t w := e
      have k := co order[s] order[t] (h.inn _ (List.getElem_mem ls)) (h.inn _ (List.getElem_mem lt)) fun w => by
        rw [← back w s _ (List.getElem?_eq_getElem ls), ← back w t _ (List.getElem?_eq_getElem lt)]
        exact e w
      have h1 : s < (order.map M).length := by rwa [List.length_map]
      refine (List.getElem?_inj h1 h.nd).mp ?_
      rw [List.getElem?_map, List.getElem?_map, List.getElem?_eq_getElem ls, List.getElem?_eq_getElem lt]
      show some (M order[s]) = some (M order[t])
      rw [k]
    · show scanRows 0 1 rows = some rows.length
      rw [h.scan, hl]
  refine ⟨⟨wf, .inr slim⟩, slim, fun w => ?_⟩
  unfold Lad.cost
  show (run (ent rows) (tip (order.map F)) 0 w).map (first + ·) = _
  rw [back w 0 0 h.head]
end Ladm

set_option maxRecDepth 100000
set_option maxHeartbeats 2000000
/-! Readings over data: what an expression's reading gives, as data (PyData), all that was tracked standing as before. -/
namespace KD
open PySem PySem.Spec PyProof.Rows L2

/-- tuples stay; lists stay lists -/
structure Kp (H H' : Hp) : Prop where
  tup : ∀ a xs, Rd H a (.tup xs) → Rd H' a (.tup xs)
  lst : ∀ a xs, Rd H a (.lst xs) → ∃ ys, Rd H' a (.lst ys)
theorem Kp.refl (H : Hp) : Kp H H := ⟨fun _ _ h => h, fun _ xs h => ⟨xs, h⟩⟩
theorem Kp.trans {H H1 H2 : Hp} (a : Kp H H1) (b : Kp H1 H2) : Kp H H2 := ⟨fun x xs h => b.tup x xs (a.tup x xs h), fun x xs h => let ⟨ys, k⟩ := a.lst x xs h; b.lst x ys k⟩
theorem rd_same {H H' : Hp} {a : Addr} {u : HO} (e : Same H H') (h : Rd H a u) : Rd H' a u := by
  rcases h with h | ⟨o, h⟩
  · exact Or.inl (e a _ h)
  · exact Or.inr ⟨o, e a _ h⟩
theorem Kp.of {H H' : Hp} (e : Same H H') : Kp H H' := ⟨fun _ _ h => rd_same e h, fun _ xs h => ⟨xs, rd_same e h⟩⟩
/-- what may be written is written: a list stays a list -/
theorem Kp.store {H : Hp} {p : Addr} {o : HO} (h : ∀ u, H p = some u → (∀ xs, u ≠ .tup xs) ∧ (∀ ob z, u ≠ .frz ob z) ∧ ((∃ xs, u = .lst xs) → ∃ xs, o = .lst xs)) : Kp H (upd H p o) := by
  refine ⟨fun a xs r => ?_, fun a xs r => ?_⟩
  · by_cases e : a = p
    · subst e
      rcases r with r | ⟨ob, r⟩
      · exact absurd rfl ((h _ r).1 xs)
      · exact absurd rfl ((h _ r).2.1 ob _)
    · unfold Rd
      rw [upd_ne e]
      exact r
  · by_cases e : a = p
    · subst e
      rcases r with r | ⟨ob, r⟩
      · obtain ⟨ys, k⟩ := (h _ r).2.2 ⟨xs, rfl⟩
        exact ⟨ys, .inl (by rw [upd_same, k])⟩
      · exact absurd rfl ((h _ r).2.1 ob _)
    · refine ⟨xs, ?_⟩
      unfold Rd
      rw [upd_ne e]
      exact r
theorem Kp.updL {H : Hp} {p : Addr} {xs ys : List V} (h : H p = some (.lst xs)) : Kp H (upd H p (.lst ys)) := .store fun u e => by
  rw [h] at e
  cases e
  exact ⟨(fun _ z => nomatch z), (fun _ _ z => nomatch z), fun _ => ⟨_, rfl⟩⟩
theorem Kp.updK {H : Hp} {p : Addr} {xs : List (Key × V)} {o : HO} (h : H p = some (.dK xs)) : Kp H (upd H p o) := .store fun u e => by
  rw [h] at e
  cases e
  exact ⟨(fun _ z => nomatch z), (fun _ _ z => nomatch z), fun z => by obtain ⟨_, q⟩ := z; cases q⟩
theorem sqT_kp {K : PySem.W.Frag} {H H' : Hp} {a : Addr} {xs : List V} (e : Kp H H') (h : SqT K H a xs) : SqT K H' a xs := by
  rcases h with h | h
  · exact Or.inl (e.tup _ _ h)
  · exact Or.inr h
theorem sqL_kp {K : PySem.W.Frag} {H H' : Hp} {a : Addr} {xs : List V} (e : Kp H H') (h : SqL K H a xs) : ∃ ys, SqL K H' a ys := by
  rcases h with h | h
  · obtain ⟨ys, k⟩ := e.lst _ _ h
    exact ⟨ys, Or.inl k⟩
  · exact ⟨xs, Or.inr h⟩
theorem sqL_same {K : PySem.W.Frag} {H H' : Hp} {a : Addr} {xs : List V} (e : Same H H') (h : SqL K H a xs) : SqL K H' a xs := by
  rcases h with h | h
  · exact Or.inl (rd_same e h)
  · exact Or.inr h

/-! ### data: none, bools, ints, texts, tuples of data; of a list only that it is one -/
mutual
inductive Dq (K : PySem.W.Frag) (H : Hp) : V → PyData → Prop
  | non : Dq K H .non .none
  | bl (b : Bool) : Dq K H (.bl b) (.bool b)
  | int (i : Int) : Dq K H (.int i) (.int i)
  | str (x : Str) : Dq K H (.str x) (.str x)
  | lst {a : Addr} {xs : List V} : SqL K H a xs → Dq K H (.ref a) (.list [])
  | tup {a : Addr} {xs : List V} {ds : List PyData} : SqT K H a xs → DqAll K H xs ds → Dq K H (.ref a) (.tuple ds)
inductive DqAll (K : PySem.W.Frag) (H : Hp) : List V → List PyData → Prop
  | nil : DqAll K H [] []
  | cons {v : V} {vs : List V} {d : PyData} {ds : List PyData} : Dq K H v d → DqAll K H vs ds → DqAll K H (v :: vs) (d :: ds)
end
mutual
theorem dq_mono {K : PySem.W.Frag} {H H' : Hp} (e : Kp H H') : ∀ (d : PyData) (v : V), Dq K H v d → Dq K H' v d
  | .none, _, h => by cases h; exact .non
  | .bool b, _, h => by cases h; exact .bl b
  | .int i, _, h => by cases h; exact .int i
  | .str x, _, h => by cases h; exact .str x
  | .list ds, _, h => by
    cases h with
    | lst hs => exact let ⟨_, k⟩ := sqL_kp e hs; .lst k
  | .tuple ds, _, h => by
    cases h with
    | tup hs ha => exact .tup (sqT_kp e hs) (dqAll_mono e ds _ ha)
  | .dict _, _, h => by cases h
theorem dqAll_mono {K : PySem.W.Frag} {H H' : Hp} (e : Kp H H') : ∀ (ds : List PyData) (vs : List V), DqAll K H vs ds → DqAll K H' vs ds
  | [], _, h => by cases h; exact .nil
  | d :: ds, _, h => by
    cases h with
    | cons h1 h2 => exact .cons (dq_mono e d _ h1) (dqAll_mono e ds _ h2)
end
mutual
def flatD : PyData → Bool
  | .list _ => false
  | .dict _ => false
  | .tuple ds => flatAll ds
  | _ => true
def flatAll : List PyData → Bool
  | [] => true
  | d :: ds => flatD d && flatAll ds
end
mutual
theorem dq_dp {K : PySem.W.Frag} {H : Hp} : ∀ (d : PyData) (v : V), flatD d = true → Dq K H v d → Dp K H v d
  | .none, _, _, h => by cases h; exact .non
  | .bool b, _, _, h => by cases h; exact .bl b
  | .int i, _, _, h => by cases h; exact .int i
  | .str x, _, _, h => by cases h; exact .str x
  | .list ds, _, f, h => by simp [flatD] at f
  | .tuple ds, _, f, h => by
    cases h with
    | tup hs ha => exact .tup hs (dqAll_dp ds _ (by simpa [flatD] using f) ha)
  | .dict _, _, _, h => by cases h
theorem dqAll_dp {K : PySem.W.Frag} {H : Hp} : ∀ (ds : List PyData) (vs : List V), flatAll ds = true → DqAll K H vs ds → DpAll K H vs ds
  | [], _, _, h => by cases h; exact .nil
  | d :: ds, _, f, h => by
    cases h with
    | cons h1 h2 =>
      simp only [flatAll, Bool.and_eq_true] at f
      exact .cons (dq_dp d _ f.1 h1) (dqAll_dp ds _ f.2 h2)
end
section
variable {K : PySem.W.Frag} {H H' : Hp}
theorem Dq.mono {v : V} {d : PyData} (h : Dq K H v d) (e : Same H H') : Dq K H' v d := dq_mono (.of e) d v h
theorem DqAll.mono {vs : List V} {ds : List PyData} (h : DqAll K H vs ds) (e : Same H H') : DqAll K H' vs ds := dqAll_mono (.of e) ds vs h
theorem Dq.kp {v : V} {d : PyData} (h : Dq K H v d) (e : Kp H H') : Dq K H' v d := dq_mono e d v h
theorem DqAll.kp {vs : List V} {ds : List PyData} (h : DqAll K H vs ds) (e : Kp H H') : DqAll K H' vs ds := dqAll_mono e ds vs h
theorem DqAll.length : ∀ {vs : List V} {ds : List PyData}, DqAll K H vs ds → vs.length = ds.length
  | _, _, .nil => rfl
  | _, _, .cons _ t => congrArg (· + 1) (DqAll.length t)
theorem DqAll.get : ∀ {vs : List V} {ds : List PyData} {i : Nat} {d : PyData}, DqAll K H vs ds → ds[i]? = some d → ∃ v, vs[i]? = some v ∧ Dq K H v d
  | _, _, _, _, .nil, e => by simp at e
  | _, _, 0, _, .cons h _, e => by
    simp at e; subst e
    exact ⟨_, rfl, h⟩
  | _, _, i + 1, _, .cons _ t, e => by
    obtain ⟨v, h1, h2⟩ := DqAll.get (i := i) t (by simpa using e)
    exact ⟨v, by simpa using h1, h2⟩
theorem DqAll.get' : ∀ {vs : List V} {ds : List PyData} {i : Nat} {v : V}, DqAll K H vs ds → vs[i]? = some v → ∃ d, ds[i]? = some d ∧ Dq K H v d
  | _, _, _, _, .nil, e => by simp at e
  | _, _, 0, _, .cons h _, e => by
    simp at e; subst e
    exact ⟨_, rfl, h⟩
  | _, _, i + 1, _, .cons _ t, e => by
    obtain ⟨v, h1, h2⟩ := DqAll.get' (i := i) t (by simpa using e)
    exact ⟨v, by simpa using h1, h2⟩
theorem DqAll.append : ∀ {vs ws : List V} {ds es : List PyData}, DqAll K H vs ds → DqAll K H ws es → DqAll K H (vs ++ ws) (ds ++ es)
  | _, _, _, _, .nil, t => t
  | _, _, _, _, .cons h t, s => .cons h (DqAll.append t s)
theorem DqAll.one {v : V} {d : PyData} (h : Dq K H v d) : DqAll K H [v] [d] := .cons h .nil
theorem DqAll.snoc {v : V} {d : PyData} {vs : List V} {ds : List PyData} (t : DqAll K H vs ds) (h : Dq K H v d) : DqAll K H (vs ++ [v]) (ds ++ [d]) := t.append (.one h)
theorem DqAll.set : ∀ {vs : List V} {ds : List PyData} (i : Nat) {v : V} {d : PyData}, DqAll K H vs ds → Dq K H v d → DqAll K H (vs.set i v) (ds.set i d)
  | _, _, _, _, _, .nil, _ => .nil
  | _, _, 0, _, _, .cons _ t, q => .cons q t
  | _, _, i + 1, _, _, .cons h t, q => .cons h (DqAll.set i t q)
theorem DqAll.ints : ∀ (ns : List Int), DqAll K H (ns.map V.int) (ns.map PyData.int)
  | [] => .nil
  | n :: ns => .cons (.int n) (DqAll.ints ns)
theorem DqAll.of_ints : ∀ {vs : List V} (ns : List Int), DqAll K H vs (ns.map PyData.int) → vs = ns.map V.int
  | _, [], h => by cases h; rfl
  | _, n :: ns, h => by
    cases h with
    | cons h1 h2 => cases h1; rw [DqAll.of_ints ns h2]; rfl
theorem DqAll.of_bls : ∀ {vs : List V} (bs : List Bool), DqAll K H vs (bs.map PyData.bool) → vs = bs.map V.bl
  | _, [], h => by cases h; rfl
  | _, n :: ns, h => by
    cases h with
    | cons h1 h2 => cases h1; rw [DqAll.of_bls ns h2]; rfl
theorem DqAll.of_strs : ∀ {vs : List V} (bs : List Str), DqAll K H vs (bs.map PyData.str) → vs = bs.map V.str
  | _, [], h => by cases h; rfl
  | _, n :: ns, h => by
    cases h with
    | cons h1 h2 => cases h1; rw [DqAll.of_strs ns h2]; rfl
theorem DqAll.single {vs : List V} {a : PyData} (h : DqAll K H vs [a]) : ∃ x, vs = [x] ∧ Dq K H x a := by
  cases h with
  | cons h0 h => cases h; exact ⟨_, rfl, h0⟩
theorem DqAll.two {vs : List V} {a b : PyData} (h : DqAll K H vs [a, b]) : ∃ x y, vs = [x, y] ∧ Dq K H x a ∧ Dq K H y b := by
  cases h with
  | cons h0 h => obtain ⟨y, rfl, h1⟩ := h.single; exact ⟨_, _, rfl, h0, h1⟩
theorem DqAll.three {vs : List V} {a b c : PyData} (h : DqAll K H vs [a, b, c]) : ∃ x y z, vs = [x, y, z] ∧ Dq K H x a ∧ Dq K H y b ∧ Dq K H z c := by
  cases h with
  | cons h0 h => obtain ⟨y, z, rfl, h1, h2⟩ := h.two; exact ⟨_, _, _, rfl, h0, h1, h2⟩
theorem DqAll.four {vs : List V} {a b c d : PyData} (h : DqAll K H vs [a, b, c, d]) : ∃ x y z u, vs = [x, y, z, u] ∧ Dq K H x a ∧ Dq K H y b ∧ Dq K H z c ∧ Dq K H u d := by
  cases h with
  | cons h0 h => obtain ⟨y, z, u, rfl, h1, h2, h3⟩ := h.three; exact ⟨_, _, _, _, rfl, h0, h1, h2, h3⟩
theorem Dq.tupE {v : V} {ds : List PyData} (h : Dq K H v (.tuple ds)) : ∃ a xs, v = .ref a ∧ SqT K H a xs ∧ DqAll K H xs ds := by
  cases h with
  | tup h1 h2 => exact ⟨_, _, rfl, h1, h2⟩
theorem Dq.intE {v : V} {i : Int} (h : Dq K H v (.int i)) : v = .int i := by cases h; rfl
theorem Dq.blE {v : V} {i : Bool} (h : Dq K H v (.bool i)) : v = .bl i := by cases h; rfl
theorem Dq.strE {v : V} {i : Str} (h : Dq K H v (.str i)) : v = .str i := by cases h; rfl
theorem Dq.nonE {v : V} (h : Dq K H v .none) : v = .non := by cases h; rfl
theorem same_new {p : Addr} {o : HO} (h : H p = none) : Same H (upd H p o) := fun b x e => by
  rw [upd_ne (ne_of_none e h)]
  exact e
/-- an object that H does not know may change -/
theorem same_mut {p : Addr} {o : HO} (e : Same H H') (h : H p = none) : Same H (upd H' p o) := fun a u ha => by
  rw [upd_ne (ne_of_none ha h)]
  exact e a u ha

/-! ### expressions -/
def EvP (K : PySem.W.Frag) (te : TE) (σ : L2.St) (H : Hp) (P : PyData → Prop) : Prop :=
  ∀ H1, Same H H1 → ∀ Q : VK, (∀ v H2 r, Same H1 H2 → Dq K H2 v r → P r → Q v H2) → te σ H1 Q
abbrev EvD (K : PySem.W.Frag) (te : TE) (σ : L2.St) (H : Hp) (d : PyData) : Prop := EvP K te σ H (fun r => r = d)
def EvB (tt : TT) (σ : L2.St) (H : Hp) (b : Bool) : Prop := ∀ H1, Same H H1 → ∀ Q : Bool → Hp → Prop, (∀ H2, Same H1 H2 → Q b H2) → tt σ H1 Q
def EvA (K : PySem.W.Frag) (ta : TA) (σ : L2.St) (H : Hp) (ds : List PyData) : Prop :=
  ∀ H1, Same H H1 → ∀ Q : List V → Hp → Prop, (∀ vs H2, Same H1 H2 → DqAll K H2 vs ds → Q vs H2) → ta σ H1 Q

variable {σ : L2.St} {ta tb tc te : TE} {tt tu : TT} {d e f : PyData} {x y z v : V}
theorem EvP.mono {P : PyData → Prop} (e : Same H H') (h : EvP K te σ H P) : EvP K te σ H' P := fun H1 a Q q => h H1 (e.trans a) Q q
theorem EvB.mono {b : Bool} (e : Same H H') (h : EvB tt σ H b) : EvB tt σ H' b := fun H1 a Q q => h H1 (e.trans a) Q q
theorem EvP.use {P : PyData → Prop} (h : EvP K te σ H P) (Q : VK) (q : ∀ v H2 r, Same H H2 → Dq K H2 v r → P r → Q v H2) : te σ H Q := h H (Same.refl H) Q q
theorem EvD.use (h : EvD K te σ H d) (Q : VK) (q : ∀ v H2, Same H H2 → Dq K H2 v d → Q v H2) : te σ H Q := h H (Same.refl H) Q fun v H2 r s p e => q v H2 s (e ▸ p)
theorem EvB.use {b : Bool} (h : EvB tt σ H b) (Q : Bool → Hp → Prop) (q : ∀ H2, Same H H2 → Q b H2) : tt σ H Q := h H (Same.refl H) Q q
theorem EvD.run {H1 : Hp} (h : EvD K te σ H d) (a : Same H H1) {Q : VK} (q : ∀ v H2, Same H1 H2 → Dq K H2 v d → Q v H2) : te σ H1 Q := h H1 a Q fun v H2 r s p e => q v H2 s (e ▸ p)
theorem evd_is (h : EvD K te σ H d) (e : d = f) : EvD K te σ H f := e ▸ h
theorem evb_is {a b : Bool} (h : EvB tt σ H a) (e : a = b) : EvB tt σ H b := e ▸ h

theorem evd_v (i : Nat) (h : σ[i]? = some (some v)) (hd : Dq K H v d) : EvD K (tVar i) σ H d := fun H1 s Q q => ⟨v, h, q v H1 d (Same.refl H1) (hd.mono s) rfl⟩
theorem evd_c (hd : ∀ H, Dq K H v d) : EvD K (tC v) σ H d := fun H1 s Q q => q v H1 d (Same.refl H1) (hd H1) rfl
theorem evd_int {i : Int} : EvD K (tC (.int i)) σ H (.int i) := evd_c fun _ => .int i
theorem evd_bl {i : Bool} : EvD K (tC (.bl i)) σ H (.bool i) := evd_c fun _ => .bl i
theorem evd_str {i : Str} : EvD K (tC (.str i)) σ H (.str i) := evd_c fun _ => .str i
theorem evd_non : EvD K (tC .non) σ H .none := evd_c fun _ => .non

/-- a two-place operation on data -/
def RD (K : PySem.W.Frag) (r : R2) (d e : PyData) (H : Hp) (f : PyData) : Prop := ∀ H1, Same H H1 → ∀ x y, Dq K H1 x d → Dq K H1 y e → ∀ Q : VK, (∀ v H2, Same H1 H2 → Dq K H2 v f → Q v H2) → r x y H1 Q
theorem evd_op {r : R2} (ha : EvD K ta σ H d) (hb : EvD K tb σ H e) (hr : RD K r d e H f) : EvD K (tOp r ta tb) σ H f := fun H1 s Q q =>
  ha.run s fun x H2 s2 p2 => hb.run (s.trans s2) fun y H3 s3 p3 => hr H3 ((s.trans s2).trans s3) x y (p2.mono s3) p3 Q fun v H4 s4 p4 => q v H4 f ((s2.trans s3).trans s4) p4 rfl
theorem rd_I0 {g : Int → Int → V} {i j : Int} (hf : ∀ H, Dq K H (g i j) f) : RD K (rI0 g) (.int i) (.int j) H f := fun H1 s x y p q Q k => by
  cases p; cases q
  exact ⟨i, j, rfl, rfl, k _ H1 (Same.refl H1) (hf H1)⟩
theorem rd_I {C : Int → Int → Prop} {g : Int → Int → V} {i j : Int} (hc : C i j) (hf : ∀ H, Dq K H (g i j) f) : RD K (rI C g) (.int i) (.int j) H f := fun H1 s x y p q Q k => by
  cases p; cases q
  exact ⟨i, j, rfl, rfl, hc, k _ H1 (Same.refl H1) (hf H1)⟩
/-- + - of ints -/
theorem evd_ar {g : Int → Int → Int} {i j : Int} (ha : EvD K ta σ H (.int i)) (hb : EvD K tb σ H (.int j)) : EvD K (tOp (rI0 fun i j => .int (g i j)) ta tb) σ H (.int (g i j)) := evd_op ha hb (rd_I0 fun _ => .int _)
/-- < <= > >= of ints -/
theorem evd_lt {g : Int → Int → Bool} {i j : Int} (ha : EvD K ta σ H (.int i)) (hb : EvD K tb σ H (.int j)) : EvD K (tOp (rI0 fun i j => .bl (g i j)) ta tb) σ H (.bool (g i j)) := evd_op ha hb (rd_I0 fun _ => .bl _)
/-- .. under a condition -/
theorem evd_arC {C : Int → Int → Prop} {g : Int → Int → Int} {i j : Int} (ha : EvD K ta σ H (.int i)) (hb : EvD K tb σ H (.int j)) (hc : C i j) : EvD K (tOp (rI C fun i j => .int (g i j)) ta tb) σ H (.int (g i j)) := evd_op ha hb (rd_I hc fun _ => .int _)

/-- scalars -/
def scalD : PyData → Bool
  | .none => true | .int _ => true | .str _ => true | .bool _ => true
  | _ => false
def eqS : PyData → PyData → Option Bool
  | .none, .none => some true
  | .none, .int _ => some false | .int _, .none => some false | .none, .bool _ => some false | .bool _, .none => some false | .none, .str _ => some false | .str _, .none => some false
  | .int i, .int j => some (decide (i = j)) | .bool i, .bool j => some (decide (i = j)) | .str i, .str j => some (decide (i = j))
  | .int _, .str _ => some false | .str _, .int _ => some false | .bool _, .str _ => some false | .str _, .bool _ => some false
  | _, _ => none
theorem eqS_ok {b : Bool} (h : eqS d e = some b) (hx : Dq K H x d) (hy : Dq K H y e) : scal x y = true ∧ decide (x = y) = b := by
  cases hx <;> cases hy <;> simp only [eqS, reduceCtorEq, Option.some.injEq] at h <;> subst h <;> simp [scal]
theorem evd_eq {b : Bool} (ha : EvD K ta σ H d) (hb : EvD K tb σ H e) (h : eqS d e = some b) : EvD K (tOp rEq ta tb) σ H (.bool b) := evd_op ha hb fun H1 s x y p q Q k => by
  obtain ⟨h1, h2⟩ := eqS_ok h p q
  refine ⟨h1, ?_⟩
  rw [h2]
  exact k _ H1 (Same.refl H1) (.bl b)
theorem evd_ne {b : Bool} (ha : EvD K ta σ H d) (hb : EvD K tb σ H e) (h : eqS d e = some b) : EvD K (tOp rNe ta tb) σ H (.bool (!b)) := evd_op ha hb fun H1 s x y p q Q k => by
  obtain ⟨h1, h2⟩ := eqS_ok h p q
  refine ⟨h1, ?_⟩
  rw [h2]
  exact k _ H1 (Same.refl H1) (.bl (!b))
theorem evd_eqD (ha : EvD K ta σ H d) (hb : EvD K tb σ H e) (f1 : flatD d = true) (f2 : flatD e = true) (h1 : SeqAt.shaped d = true) (h2 : SeqAt.shaped e = true) : EvD K (tOp (rEqD K) ta tb) σ H (.bool (PyData.eqv d e)) := evd_op ha hb fun H1 s x y p q Q k =>
  ⟨d, e, dq_dp d _ f1 p, dq_dp e _ f2 q, h1, h2, k _ H1 (Same.refl H1) (.bl _)⟩
theorem evd_neD (ha : EvD K ta σ H d) (hb : EvD K tb σ H e) (f1 : flatD d = true) (f2 : flatD e = true) (h1 : SeqAt.shaped d = true) (h2 : SeqAt.shaped e = true) : EvD K (tOp (rNeD K) ta tb) σ H (.bool (!PyData.eqv d e)) := evd_op ha hb fun H1 s x y p q Q k =>
  ⟨d, e, dq_dp d _ f1 p, dq_dp e _ f2 q, h1, h2, k _ H1 (Same.refl H1) (.bl _)⟩
def isNone : PyData → Bool
  | .none => true
  | _ => false
def rIsN : R2 := fun x y H Q => y = .non ∧ Q (.bl (decide (x = .non))) H
def rNotN : R2 := fun x y H Q => y = .non ∧ Q (.bl (!decide (x = .non))) H
theorem dq_isNone {v : V} {d : PyData} (h : Dq K H v d) : decide (v = .non) = isNone d := by
  cases h <;> first | rfl | exact decide_eq_false (fun e => nomatch e)
theorem evd_isN (ha : EvD K ta σ H d) : EvD K (tOp rIsN ta (tC .non)) σ H (.bool (isNone d)) := evd_op ha evd_non fun H1 s x y p q Q k => by
  cases q
  refine ⟨rfl, ?_⟩
  rw [dq_isNone p]
  exact k _ H1 (Same.refl H1) (.bl _)
theorem evd_notN (ha : EvD K ta σ H d) : EvD K (tOp rNotN ta (tC .non)) σ H (.bool (!isNone d)) := evd_op ha evd_non fun H1 s x y p q Q k => by
  cases q
  refine ⟨rfl, ?_⟩
  rw [dq_isNone p]
  exact k _ H1 (Same.refl H1) (.bl _)
def rIsBo : R2 := fun x y H Q => ∃ a b, x = .bl a ∧ y = .bl b ∧ Q (.bl (decide (a = b))) H
def rNotBo : R2 := fun x y H Q => ∃ a b, x = .bl a ∧ y = .bl b ∧ Q (.bl (!decide (a = b))) H
theorem evd_isB {a b : Bool} (ha : EvD K ta σ H (.bool a)) (hb : EvD K tb σ H (.bool b)) : EvD K (tOp rIsBo ta tb) σ H (.bool (decide (a = b))) := evd_op ha hb fun H1 s x y p q Q k => by
  cases p; cases q
  exact ⟨a, b, rfl, rfl, k _ H1 (Same.refl H1) (.bl _)⟩
theorem evd_notB {a b : Bool} (ha : EvD K ta σ H (.bool a)) (hb : EvD K tb σ H (.bool b)) : EvD K (tOp rNotBo ta tb) σ H (.bool (!decide (a = b))) := evd_op ha hb fun H1 s x y p q Q k => by
  cases p; cases q
  exact ⟨a, b, rfl, rfl, k _ H1 (Same.refl H1) (.bl _)⟩
theorem evd_neg {i : Int} (ha : EvD K ta σ H (.int i)) : EvD K (tUn (rU fun i => .int (-i)) ta) σ H (.int (-i)) := fun H1 s Q q => ha.run s fun x H2 s2 p2 => by
  cases p2
  exact ⟨i, rfl, q _ H2 _ s2 (.int _) rfl⟩

/-! ### tests -/
theorem evb_test {b : Bool} (h : EvD K te σ H (.bool b)) : EvB (tTest te) σ H b := fun H1 s Q q => h.run s fun v H2 s2 p => by
  cases p
  exact ⟨b, rfl, q H2 s2⟩
theorem evb_B {b : Bool} (h : EvD K te σ H (.bool b)) : EvB (tB te) σ H b := fun H1 s Q q => h.run s fun v H2 s2 p => by
  cases p
  exact ⟨b, rfl, q H2 s2⟩
theorem evb_and {a b : Bool} (h1 : EvB tt σ H a) (h2 : a = true → EvB tu σ H b) : EvB (tAnd tt tu) σ H (a && b) := fun H1 s Q q => h1 H1 s _ fun H2 s2 => by
  cases a with
  | true => exact iteT (h2 rfl H2 (s.trans s2) Q fun H3 s3 => q H3 (s2.trans s3))
  | false => exact iteF (q H2 s2)
theorem evb_or {a b : Bool} (h1 : EvB tt σ H a) (h2 : a = false → EvB tu σ H b) : EvB (tOr tt tu) σ H (a || b) := fun H1 s Q q => h1 H1 s _ fun H2 s2 => by
  cases a with
  | true => exact iteT (q H2 s2)
  | false => exact iteF (h2 rfl H2 (s.trans s2) Q fun H3 s3 => q H3 (s2.trans s3))
theorem evb_not {a : Bool} (h1 : EvB tt σ H a) : EvB (tNot tt) σ H (!a) := fun H1 s Q q => h1 H1 s _ fun H2 s2 => q H2 s2
theorem evb_yes : EvB tYes σ H true := fun H1 s Q q => q H1 (Same.refl H1)
theorem evd_and {a b : Bool} (h1 : EvD K ta σ H (.bool a)) (h2 : a = true → EvD K tb σ H (.bool b)) : EvD K (tAndV ta tb) σ H (.bool (a && b)) := fun H1 s Q q => h1.run s fun v H2 s2 p => by
  cases p
  refine ⟨a, rfl, ?_⟩
  cases a with
  | true => exact iteT ((h2 rfl).run (s.trans s2) fun v H3 s3 p3 => q v H3 _ (s2.trans s3) p3 rfl)
  | false => exact iteF (q _ H2 _ s2 (.bl false) rfl)
theorem evd_or {a b : Bool} (h1 : EvD K ta σ H (.bool a)) (h2 : a = false → EvD K tb σ H (.bool b)) : EvD K (tOrV ta tb) σ H (.bool (a || b)) := fun H1 s Q q => h1.run s fun v H2 s2 p => by
  cases p
  refine ⟨a, rfl, ?_⟩
  cases a with
  | true => exact iteT (q _ H2 _ s2 (.bl true) rfl)
  | false => exact iteF ((h2 rfl).run (s.trans s2) fun v H3 s3 p3 => q v H3 _ (s2.trans s3) p3 rfl)
theorem evd_not {a : Bool} (h1 : EvD K ta σ H (.bool a)) : EvD K (tNotV ta) σ H (.bool (!a)) := fun H1 s Q q => h1.run s fun v H2 s2 p => by
  cases p
  exact ⟨a, rfl, q _ H2 _ s2 (.bl _) rfl⟩
theorem evp_if {b : Bool} {P : PyData → Prop} (h : EvB tt σ H b) (h1 : b = true → EvP K ta σ H P) (h2 : b = false → EvP K tb σ H P) : EvP K (tIf tt ta tb) σ H P := fun H1 s Q q => h H1 s _ fun H2 s2 => by
  cases b with
  | true => exact iteT (h1 rfl H2 (s.trans s2) Q fun v H3 r s3 p3 e3 => q v H3 r (s2.trans s3) p3 e3)
  | false => exact iteF (h2 rfl H2 (s.trans s2) Q fun v H3 r s3 p3 e3 => q v H3 r (s2.trans s3) p3 e3)
/-- a < b < c -/
theorem evd_chain {r r' : R2} {a b : Bool} (ha : EvD K ta σ H d) (hb : EvD K tb σ H e) (hr : RD K r d e H (.bool a)) (hc : a = true → EvD K tc σ H f) (hr' : a = true → RD K r' e f H (.bool b)) :
    EvD K (tChain r r' ta tb tc) σ H (.bool (a && b)) := fun H1 s Q q =>
  ha.run s fun x H2 s2 p2 => hb.run (s.trans s2) fun y H3 s3 p3 => hr H3 ((s.trans s2).trans s3) x y (p2.mono s3) p3 _ fun v H4 s4 p4 => by
    cases p4
    refine ⟨a, rfl, ?_⟩
    have s14 := ((s.trans s2).trans s3).trans s4
    cases a with
    | true => exact iteT ((hc rfl).run s14 fun w H5 s5 p5 => (hr' rfl) H5 (s14.trans s5) y w ((p3.mono s4).mono s5) p5 Q fun v H6 s6 p6 => q v H6 _ ((((s2.trans s3).trans s4).trans s5).trans s6) p6 rfl)
    | false => exact iteF (q _ H4 _ ((s2.trans s3).trans s4) (.bl false) rfl)
theorem rd_lt {g : Int → Int → Bool} {i j : Int} : RD K (rI0 fun i j => .bl (g i j)) (.int i) (.int j) H (.bool (g i j)) := rd_I0 fun _ => .bl _

/-! ### arguments, displays -/
theorem eva_nil : EvA K tNil σ H [] := fun H1 s Q q => q [] H1 (Same.refl H1) .nil
theorem eva_cons {tr : TA} {ds : List PyData} (h : EvD K te σ H d) (hr : EvA K tr σ H ds) : EvA K (tCons te tr) σ H (d :: ds) := fun H1 s Q q =>
  h.run s fun v H2 s2 p2 => hr H2 (s.trans s2) _ fun vs H3 s3 p3 => q (v :: vs) H3 (s2.trans s3) (.cons (p2.mono s3) p3)
theorem evd_tup {ta : TA} {ds : List PyData} (h : EvA K ta σ H ds) (hl : ds.length ≤ 100000) : EvD K (tTup ta) σ H (.tuple ds) := fun H1 s Q q =>
  h H1 s _ fun vs H2 s2 p2 => ⟨by rw [p2.length]; exact Evl.sz_of hl, fun p hp => q _ _ _ (s2.trans (same_new hp)) (.tup (.inl (.inl upd_same)) (p2.mono (same_new hp))) rfl⟩
/-- a new list -/
def EvL (K : PySem.W.Frag) (te : TE) (σ : L2.St) (H : Hp) (ds : List PyData) : Prop :=
  ∀ H1, Same H H1 → ∀ Q : VK, (∀ p xs H2, H1 p = none → Same H1 H2 → H2 p = some (.lst xs) → DqAll K H2 xs ds → Q (.ref p) H2) → te σ H1 Q
theorem EvL.is {ds es : List PyData} (h : EvL K te σ H ds) (e : ds = es) : EvL K te σ H es := e ▸ h
theorem EvL.mono {ds : List PyData} (e : Same H H') (h : EvL K te σ H ds) : EvL K te σ H' ds := fun H1 a Q q => h H1 (e.trans a) Q q
theorem EvL.use {ds : List PyData} (h : EvL K te σ H ds) (Q : VK) (q : ∀ p xs H2, H p = none → Same H H2 → H2 p = some (.lst xs) → DqAll K H2 xs ds → Q (.ref p) H2) : te σ H Q := h H (Same.refl H) Q q
theorem same_free {p : Addr} (s : Same H H') (h : H' p = none) : H p = none := s.free h
theorem evl_lst {ta : TA} {ds : List PyData} (h : EvA K ta σ H ds) (hl : ds.length ≤ 100000) : EvL K (tLst ta) σ H ds := fun H1 s Q q =>
  h H1 s _ fun vs H2 s2 p2 => ⟨by rw [p2.length]; exact Evl.sz_of hl, fun p hp => q _ _ _ (s2.free hp) (s2.trans (same_new hp)) upd_same (p2.mono (same_new hp))⟩

/-! ### subscripts -/
theorem rd_ixT {ds : List PyData} {i : Nat} (h : ds[i]? = some f) : RD K (rIxT K) (.tuple ds) (.int i) H f := fun H1 s x y p q Q k => by
  cases q
  obtain ⟨a, xs, rfl, h1, h2⟩ := Dq.tupE p
  obtain ⟨v, hv, hp⟩ := h2.get h
  exact ⟨a, xs, i, v, rfl, rfl, h1, atI_nat hv, k v H1 (Same.refl H1) hp⟩
theorem evd_ixT {ds : List PyData} {i : Nat} (ha : EvD K ta σ H (.tuple ds)) (hb : EvD K tb σ H (.int i)) (h : ds[i]? = some f) : EvD K (tOp (rIxT K) ta tb) σ H f := evd_op ha hb (rd_ixT h)
/-- an item of a list that stands -/
theorem evd_ixLs {p : Addr} {xs : List V} {ds : List PyData} {i : Nat} (hs : SqL K H p xs) (hd : DqAll K H xs ds) (ha : ∀ H1, Same H H1 → ∀ Q : VK, (∀ H2, Same H1 H2 → Q (.ref p) H2) → ta σ H1 Q) (hb : EvD K tb σ H (.int i)) (h : ds[i]? = some f) :
    EvD K (tOp (rIxL K) ta tb) σ H f := fun H1 s Q q => ha H1 s _ fun H2 s2 => hb.run (s.trans s2) fun y H3 s3 p3 => by
  cases p3
  have s03 := (s.trans s2).trans s3
  obtain ⟨v, hv, hp⟩ := hd.get h
  exact ⟨p, xs, i, v, rfl, rfl, sqL_same s03 hs, atI_nat hv, q v H3 _ (s2.trans s3) (hp.mono s03) rfl⟩
theorem evr_v {p : Addr} (i : Nat) (h : σ[i]? = some (some (.ref p))) : ∀ H1, Same H H1 → ∀ Q : VK, (∀ H2, Same H1 H2 → Q (.ref p) H2) → tVar i σ H1 Q := fun H1 _ Q q => ⟨_, h, q H1 (Same.refl H1)⟩

/-! ### calls -/
/-- a promise over data: Pre of the arguments, Post of arguments and answer -/
def spD (K : PySem.W.Frag) (Pre : List PyData → Prop) (Post : List PyData → PyData → Prop) : Sp := fun vs H Q _ =>
  ∃ ds, DqAll K H vs ds ∧ Pre ds ∧ ∀ r v H', Same H H' → Dq K H' v r → Post ds r → Q v H'
/-- .. of a def that may raise: Err of the arguments and the class -/
def spE (K : PySem.W.Frag) (Pre : List PyData → Prop) (Post : List PyData → PyData → Prop) (Err : List PyData → Addr → Prop) : Sp := fun vs H Q E =>
  ∃ ds, DqAll K H vs ds ∧ Pre ds ∧ (∀ r v H', Same H H' → Dq K H' v r → Post ds r → Q v H') ∧ ∀ C H', Same H H' → Err ds C → E (.ref C) none H'
theorem evp_call {Pre : List PyData → Prop} {Post : List PyData → PyData → Prop} {E : XK} {ta : TA} {ds : List PyData} (h : EvA K ta σ H ds) (hp : Pre ds) : EvP K (tCall (spD K Pre Post) [] E ta) σ H (Post ds) := fun H1 s Q q =>
  h H1 s _ fun vs H2 s2 p2 => ⟨ds, by rw [List.append_nil]; exact p2, hp, fun r v H3 s3 p3 e3 => q v H3 r (s2.trans s3) p3 e3⟩
/-- .. where nothing is raised -/
theorem evp_callE {Pre : List PyData → Prop} {Post : List PyData → PyData → Prop} {Err : List PyData → Addr → Prop} {E : XK} {ta : TA} {ds : List PyData} (h : EvA K ta σ H ds) (hp : Pre ds) (he : ∀ C, ¬ Err ds C) :
    EvP K (tCall (spE K Pre Post Err) [] E ta) σ H (Post ds) := fun H1 s Q q =>
  h H1 s _ fun vs H2 s2 p2 => ⟨ds, by rw [List.append_nil]; exact p2, hp, fun r v H3 s3 p3 e3 => q v H3 r (s2.trans s3) p3 e3, fun C H3 _ x => (he C x).elim⟩
theorem EvP.imp {P P' : PyData → Prop} (h : EvP K te σ H P) (k : ∀ r, P r → P' r) : EvP K te σ H P' := fun H1 s Q q => h H1 s Q fun v H2 r s2 p2 e2 => q v H2 r s2 p2 (k r e2)

/-- a built-in's call on data -/
def CD (K : PySem.W.Frag) (r : List V → Hp → VK → Prop) (ds : List PyData) (H : Hp) (P : PyData → Prop) : Prop :=
  ∀ H1, Same H H1 → ∀ vs, DqAll K H1 vs ds → ∀ Q : VK, (∀ v H2 f, Same H1 H2 → Dq K H2 v f → P f → Q v H2) → r vs H1 Q
theorem evp_cb {r : List V → Hp → VK → Prop} {ta : TA} {ds : List PyData} {P : PyData → Prop} (h : EvA K ta σ H ds) (hr : CD K r ds H P) : EvP K (tCB r ta) σ H P := fun H1 s Q q =>
  h H1 s _ fun vs H2 s2 p2 => hr H2 (s.trans s2) vs p2 Q fun v H3 f s3 p3 e3 => q v H3 f (s2.trans s3) p3 e3
def rLenS (K : PySem.W.Frag) : List V → Hp → VK → Prop := fun xs H Q => ∃ p ys, xs = [.ref p] ∧ (SqL K H p ys ∨ SqT K H p ys) ∧ Q (.int ys.length) H
theorem cd_lenT {ds : List PyData} : CD K (rLenS K) [.tuple ds] H (· = .int ds.length) := fun H1 s vs p Q q => by
  cases p with
  | cons p1 p2 =>
    cases p2
    obtain ⟨a, xs, rfl, h1, h2⟩ := Dq.tupE p1
    exact ⟨a, xs, rfl, .inr h1, q _ H1 _ (Same.refl H1) (.int _) (by rw [h2.length])⟩
theorem evd_lenT {ds : List PyData} (h : EvD K te σ H (.tuple ds)) : EvD K (tCB (rLenS K) (tCons te tNil)) σ H (.int ds.length) := evp_cb (eva_cons h eva_nil) cd_lenT
theorem evd_lenL {ds : List PyData} (h : EvL K te σ H ds) : EvD K (tCB (rLenS K) (tCons te tNil)) σ H (.int ds.length) := fun H1 s Q q =>
  h H1 s _ fun p xs H2 hp s2 e2 d2 => ⟨p, xs, rfl, .inl (.inl (.inl e2)), q _ H2 _ s2 (.int _) (by rw [d2.length])⟩
theorem evd_lenLs {p : Addr} {xs : List V} (hs : SqL K H p xs) (ha : ∀ H1, Same H H1 → ∀ Q : VK, (∀ H2, Same H1 H2 → Q (.ref p) H2) → te σ H1 Q) : EvD K (tCB (rLenS K) (tCons te tNil)) σ H (.int xs.length) := fun H1 s Q q =>
  ha H1 s _ fun H2 s2 => ⟨p, xs, rfl, .inl (sqL_same (s.trans s2) hs), q _ H2 _ s2 (.int _) rfl⟩
def rLenStr : List V → Hp → VK → Prop := fun xs H Q => ∃ z, xs = [.str z] ∧ z.length ≤ sizeLine ∧ Q (.int z.length) H
theorem evd_lenS {z : Str} (h : EvD K te σ H (.str z)) (hl : z.length ≤ sizeLine) : EvD K (tCB rLenStr (tCons te tNil)) σ H (.int z.length) := evp_cb (eva_cons h eva_nil) fun H1 s vs p Q q => by
  cases p with
  | cons p1 p2 =>
    cases p2; cases p1
    exact ⟨z, rfl, hl, q _ H1 _ (Same.refl H1) (.int _) rfl⟩
theorem evd_all {bs : List Bool} (h : EvL K te σ H (bs.map .bool)) : EvD K (tCB (rAll K) (tCons te tNil)) σ H (.bool (bs.all id)) := fun H1 s Q q =>
  h H1 s _ fun p xs H2 hp s2 e2 d2 => ⟨p, bs, rfl, .inl (.inl (by rw [e2, d2.of_bls])), q _ H2 _ s2 (.bl _) rfl⟩
theorem evd_any {bs : List Bool} (h : EvL K te σ H (bs.map .bool)) : EvD K (tCB (rAny K) (tCons te tNil)) σ H (.bool (bs.any id)) := fun H1 s Q q =>
  h H1 s _ fun p xs H2 hp s2 e2 d2 => ⟨p, bs, rfl, .inl (.inl (by rw [e2, d2.of_bls])), q _ H2 _ s2 (.bl _) rfl⟩
/-- isinstance -/
def tyName : PyData → String
  | .none => "NoneType" | .bool _ => "bool" | .int _ => "int" | .str _ => "str" | .list _ => "list" | .tuple _ => "tuple" | .dict _ => "dict"
theorem tyx_of {v : V} {d : PyData} (h : Dq K H v d) : TyX K H v (.type (tyName d)) := by
  cases h with
  | non => exact .base .non
  | bl b => exact .base (.bl b)
  | int i => exact .base (.int i)
  | str i => exact .base (.str i)
  | lst hs =>
    rcases hs with (hs | ⟨o, hs⟩) | ⟨o, its, n, hk, hc, _⟩
    · exact .base (.lst hs)
    · exact .base (.frz hs)
    · exact .kList hk hc
  | tup hs _ =>
    rcases hs with (hs | ⟨o, hs⟩) | ⟨o, its, n, hk, hc, _⟩
    · exact .base (.tup hs)
    · exact .fTuple hs
    · exact .kTuple hk hc
theorem evd_isi {T : String} {b : Bool} (h : EvD K te σ H d) (hk : kitB (tyName d) T = some b) : EvD K (tCB (rIsi K) (tCons te (tCons (tC (.ty T)) tNil))) σ H (.bool b) := fun H1 s Q q =>
  h.run s fun v H2 s2 p2 => ⟨v, .ty T, .type (tyName d), .type T, b, rfl, .ty T, tyx_of p2, kit_ty hk, q _ H2 _ s2 (.bl b) rfl⟩

/-! ### statements -/
variable {D : Ends} {t1 t2 ts : TS}
theorem evs_if {b : Bool} (h : EvB tt σ H b) (h1 : b = true → ∀ H1, Same H H1 → t1 D σ H1) (h2 : b = false → ∀ H1, Same H H1 → t2 D σ H1) : tIfS tt t1 t2 D σ H := h H (Same.refl H) _ fun H1 s => by
  cases b with
  | true => exact iteT (h1 rfl H1 s)
  | false => exact iteF (h2 rfl H1 s)
theorem evs_set {P : PyData → Prop} {i : Nat} (h : EvP K te σ H P) (q : ∀ v H1 r, Same H H1 → Dq K H1 v r → P r → D.nx (σ.set i (some v)) H1) : tAsg te (gName i) D σ H := h.use _ q
theorem evs_setD {i : Nat} (h : EvD K te σ H d) (q : ∀ v H1, Same H H1 → Dq K H1 v d → D.nx (σ.set i (some v)) H1) : tAsg te (gName i) D σ H := h.use _ q
theorem evs_ret {P : PyData → Prop} (h : EvP K te σ H P) (q : ∀ v H1 r, Same H H1 → Dq K H1 v r → P r → D.rt v H1) : tRet te D σ H := h.use _ q
theorem evs_retD (h : EvD K te σ H d) (q : ∀ v H1, Same H H1 → Dq K H1 v d → D.rt v H1) : tRet te D σ H := h.use _ q
theorem evs_drop {P : PyData → Prop} (h : EvP K te σ H P) (q : ∀ H1 r, Same H H1 → P r → D.nx σ H1) : tDrop te D σ H := h.use _ fun v H1 r s p e => q H1 r s e
end
end KD

set_option maxRecDepth 100000
set_option maxHeartbeats 2000000
/-! What is walked, as data; comprehensions over data. -/
namespace KD
open PySem PySem.Spec PyProof.Rows L2

/-- J walks ds, as long as the heap stands to H as Rl says -/
structure ItR (Rl : Hp → Hp → Prop) (K : PySem.W.Frag) (J : It) (H : Hp) (ds : List PyData) : Prop where
  stop : ∀ H', Rl H H' → J.stop ds.length H'
  go : ∀ i d H', ds[i]? = some d → Rl H H' → J.go i H'
  yld : ∀ i d x H' H'', ds[i]? = some d → Rl H H' → J.yld i H' x H'' → Same H' H'' ∧ Dq K H'' x d
def EvI (Rl : Hp → Hp → Prop) (K : PySem.W.Frag) (wi : TI) (σ : L2.St) (H : Hp) (ds : List PyData) : Prop :=
  ∀ H1, Same H H1 → ∀ R : It → Hp → Prop, (∀ J H2, Same H1 H2 → ItR Rl K J H2 ds → R J H2) → wi σ H1 R
section
variable {K : PySem.W.Frag} {H H' : Hp} {σ : L2.St} {te tk : TE} {tt : TT} {ds : List PyData} {wi : TI} {J : It}
theorem ItR.same (h : ItR Kp K J H ds) : ItR Same K J H ds := ⟨fun H' s => h.stop H' (.of s), fun i d H' e s => h.go i d H' e (.of s), fun i d x H' H'' e s => h.yld i d x H' H'' e (.of s)⟩
theorem EvI.same (h : EvI Kp K wi σ H ds) : EvI Same K wi σ H ds := fun H1 s R q => h H1 s R fun J H2 s2 it => q J H2 s2 it.same
theorem evi_tup (h : EvD K te σ H (.tuple ds)) : EvI Kp K (iTup K te) σ H ds := fun H1 s R q => h.run s fun v H2 s2 p2 => by
  obtain ⟨a, xs, rfl, h1, h2⟩ := p2.tupE
  refine ⟨a, rfl, ⟨xs, h1⟩, q _ H2 s2 ⟨fun H' k => ?_, fun i d H' e k => ?_, fun i d x H' H'' e k y => ?_⟩⟩
  · exact ⟨xs, sqT_kp k h1, by rw [h2.length]; exact Nat.le_refl _⟩
  · obtain ⟨v, hv, _⟩ := h2.get e
    exact ⟨xs, v, sqT_kp k h1, hv⟩
  · obtain ⟨v, hv, hp⟩ := h2.get e
    obtain ⟨rfl, z⟩ := y
    have := (z xs (sqT_kp k h1)).symm.trans hv
    cases this
    exact ⟨Same.refl _, hp.kp k⟩
theorem evi_list (h : EvL K te σ H ds) : EvI Same K (iList K te) σ H ds := fun H1 s R q => h H1 s _ fun p xs H2 hp s2 e2 d2 => by
  have h1 : SqL K H2 p xs := .inl (.inl e2)
  refine ⟨p, rfl, ⟨xs, h1⟩, q _ H2 s2 ⟨fun H' k => ?_, fun i d H' e k => ?_, fun i d x H' H'' e k y => ?_⟩⟩
  · exact ⟨xs, sqL_same k h1, by rw [d2.length]; exact Nat.le_refl _⟩
  · obtain ⟨v, hv, _⟩ := d2.get e
    exact ⟨xs, v, sqL_same k h1, hv⟩
  · obtain ⟨v, hv, hp⟩ := d2.get e
    obtain ⟨rfl, z⟩ := y
    have := (z xs (sqL_same k h1)).symm.trans hv
    cases this
    exact ⟨Same.refl _, hp.mono k⟩
/-- over a list that stands -/
theorem evi_listS {p : Addr} {xs : List V} (hs : SqL K H p xs) (hd : DqAll K H xs ds) (ha : ∀ H1, Same H H1 → ∀ Q : VK, (∀ H2, Same H1 H2 → Q (.ref p) H2) → te σ H1 Q) : EvI Same K (iList K te) σ H ds := fun H1 s R q => ha H1 s _ fun H2 s2 => by
  have h1 : SqL K H2 p xs := sqL_same (s.trans s2) hs
  have d2 : DqAll K H2 xs ds := hd.mono (s.trans s2)
  refine ⟨p, rfl, ⟨xs, h1⟩, q _ H2 s2 ⟨fun H' k => ?_, fun i d H' e k => ?_, fun i d x H' H'' e k y => ?_⟩⟩
  · exact ⟨xs, sqL_same k h1, by rw [d2.length]; exact Nat.le_refl _⟩
  · obtain ⟨v, hv, _⟩ := d2.get e
    exact ⟨xs, v, sqL_same k h1, hv⟩
  · obtain ⟨v, hv, hp⟩ := d2.get e
    obtain ⟨rfl, z⟩ := y
    have := (z xs (sqL_same k h1)).symm.trans hv
    cases this
    exact ⟨Same.refl _, hp.mono k⟩
def signs (z : Str) : List PyData := z.cps.toList.map fun c => .str ⟨#[c]⟩
theorem evi_str {z : Str} (h : EvD K te σ H (.str z)) : EvI Kp K (iStr te) σ H (signs z) := fun H1 s R q => h.run s fun v H2 s2 p2 => by
  cases p2
  have hl : (signs z).length = z.cps.size := by simp [signs]
  refine ⟨z, rfl, q _ H2 s2 ⟨fun H' k => ?_, fun i d H' e k => ?_, fun i d x H' H'' e k y => ?_⟩⟩
  · show z.cps.size ≤ (signs z).length
    rw [hl]; exact Nat.le_refl _
  · show i < z.cps.size
    have := (List.getElem?_eq_some_iff.mp e).1
    omega
  · obtain ⟨rfl, c, hc, rfl⟩ := y
    refine ⟨Same.refl _, ?_⟩
    have : (signs z)[i]? = some (.str ⟨#[c]⟩) := by
      unfold signs
      rw [List.getElem?_map, Array.getElem?_toList, hc]; rfl
    rw [this] at e
    cases e
    exact .str _
def iRg1 (ta : TA) : TI := fun σ H R => ta σ H fun vs H1 => ∃ j : Int, vs = [.int j] ∧ -(2 ^ 62) ≤ j ∧ j < 2 ^ 62 ∧ R (Itr 0 j.toNat) H1
def nats (n : Nat) : List PyData := (List.range n).map fun i => .int (i : Nat)
theorem itr_nats {n : Nat} : ItR Kp K (Itr 0 n) H (nats n) := by
  have hl : (nats n).length = n := by simp [nats]
  refine ⟨fun H' k => ?_, fun i d H' e k => ?_, fun i d x H' H'' e k y => ?_⟩
  · show n ≤ (nats n).length
    omega
  · show i < n
    have := (List.getElem?_eq_some_iff.mp e).1
    omega
  · obtain ⟨rfl, rfl⟩ := y
    have hi : i < n := by
      have := (List.getElem?_eq_some_iff.mp e).1
      omega
    have : (nats n)[i]? = some (.int (i : Nat)) := by
      unfold nats
      rw [List.getElem?_map, List.getElem?_range hi]; rfl
    rw [this] at e
    cases e
    refine ⟨Same.refl _, ?_⟩
    rw [Int.zero_add]
    exact .int _
theorem evi_range1 {n : Nat} (h : EvD K te σ H (.int (n : Nat))) (hn : n ≤ 100000) : EvI Kp K (iRng1 (tCons te tNil)) σ H (nats n) := fun H1 s R q => h.run s fun v H2 s2 p2 => by
  cases p2
  refine ⟨n, rfl, by omega, by omega, ?_⟩
  rw [Int.toNat_natCast]
  exact q _ H2 s2 itr_nats

theorem len100 {acc : List V} (h : acc.length ≤ 100000) : acc.length < sizeLine := Nat.lt_of_le_of_lt h (by decide)
/-- a comprehension: Tg says what the slots hold when the target holds d -/
theorem evl_lcG {g : TG} {vs : List Nat} (hs : EvI Same K wi σ H ds) (hl : ds.length ≤ 100000) (f : PyData → Option PyData) (Tg : PyData → L2.St → Hp → Prop)
    (hg : ∀ d x H1, d ∈ ds → Same H H1 → Dq K H1 x d → ∀ Q : L2.St → Hp → Prop, (∀ σ2, Tg d σ2 H1 → wipe σ2 vs = wipe σ vs → Q σ2 H1) → g x (wipe σ vs) H1 Q)
    (h : ∀ d σ2 H1, d ∈ ds → Same H H1 → Tg d σ2 H1 → match f d with
      | none => EvB tt σ2 H1 false
      | some e => EvB tt σ2 H1 true ∧ EvD K te σ2 H1 e) : EvL K (tLc wi g tt te vs) σ H (ds.filterMap f) := fun H1 s Q q => by
  refine hs H1 s _ fun J H2 s2 it => fun D hD => ?_
  refine ⟨fun k m H' => m = ds.length - k ∧ k ≤ ds.length ∧ Same H2 H' ∧ ∃ acc, H' D = some (.lst acc) ∧ DqAll K H' acc ((ds.take k).filterMap f), ⟨ds.length, by simp, Nat.zero_le _, same_new hD, [], upd_same, by simpa using DqAll.nil⟩, ?_⟩
  rintro k m H' ⟨rfl, hk, s', acc, ea, da⟩
  by_cases hlt : k < ds.length
  · have e : ds[k]? = some ds[k] := List.getElem?_eq_getElem hlt
    have hmem : ds[k] ∈ ds := List.getElem_mem hlt
    refine .inr ⟨it.go k _ H' e s', fun H'' => k + 1 ≤ ds.length ∧ Same H2 H'' ∧ ∃ acc, H'' D = some (.lst acc) ∧ DqAll K H'' acc ((ds.take (k + 1)).filterMap f), fun H'' ⟨a, b, c⟩ => ⟨ds.length - (k + 1), by omega, rfl, a, b, c⟩, fun x H'' y => ?_⟩
    obtain ⟨s3, dx⟩ := it.yld k _ x H' H'' e s' y
    have s03 : Same H H'' := ((s.trans s2).trans s').trans s3
    have tk : (ds.take (k + 1)).filterMap f = (ds.take k).filterMap f ++ (f ds[k]).toList := by
      rw [List.take_add_one, e, List.filterMap_append]
      cases hf : f ds[k] <;> simp [hf]
    have len : acc.length ≤ 100000 := by
      rw [da.length]
      have h1 := List.length_filterMap_le f (ds.take k)
      rw [List.length_take] at h1
      omega
    refine hg _ x H'' hmem s03 dx _ fun σ2 tg hw => ⟨hw, ?_⟩
    have z := h _ σ2 H'' hmem s03 tg
    cases hf : f ds[k] with
    | none =>
      rw [hf] at z
      refine z H'' (Same.refl _) _ fun H3 s4 => ?_
      refine iteF ⟨hlt, (s'.trans s3).trans s4, acc, s4 _ _ (s3 _ _ ea), ?_⟩
      rw [tk, hf]
      simpa using da.mono (s3.trans s4)
    | some b =>
      rw [hf] at z
      refine z.1 H'' (Same.refl _) _ fun H3 s4 => ?_
      refine iteT (z.2.run s4 fun v H4 s5 p5 => ?_)
      have e4 : H4 D = some (.lst acc) := s5 _ _ (s4 _ _ (s3 _ _ ea))
      refine ⟨acc, e4, len100 len, hlt, same_mut (((s'.trans s3).trans s4).trans s5) hD, _, upd_same, ?_⟩
      rw [tk, hf]
      exact ((da.mono ((s3.trans s4).trans s5)).kp (.updL e4)).snoc (p5.kp (.updL e4))
  · have hk' : k = ds.length := by omega
    subst hk'
    refine .inl ⟨it.stop H' s', ?_⟩
    rw [List.take_length] at da
    exact q D acc H' (s2.free hD) (s2.trans s') ea da
/-- [e for x in .. if t] -/
theorem evl_lc {i : Nat} (hs : EvI Same K wi σ H ds) (hl : ds.length ≤ 100000) (f : PyData → Option PyData)
    (h : ∀ d x H1, d ∈ ds → Same H H1 → Dq K H1 x d → match f d with
      | none => EvB tt ((wipe σ [i]).set i (some x)) H1 false
      | some e => EvB tt ((wipe σ [i]).set i (some x)) H1 true ∧ EvD K te ((wipe σ [i]).set i (some x)) H1 e)
    (hw : ∀ x : V, wipe ((wipe σ [i]).set i (some x)) [i] = wipe σ [i] := by intro _; rfl) : EvL K (tLc wi (gName i) tt te [i]) σ H (ds.filterMap f) :=
  evl_lcG hs hl f (fun d σ2 H1 => ∃ x, Dq K H1 x d ∧ σ2 = (wipe σ [i]).set i (some x)) (fun d x H1 _ _ dx Q q => q _ ⟨x, dx, rfl⟩ (hw x)) fun d σ2 H1 hd s ⟨x, dx, e⟩ => e ▸ h d x H1 hd s dx
/-- [e for x in ..] -/
theorem evl_map {i : Nat} (hs : EvI Same K wi σ H ds) (hl : ds.length ≤ 100000) (f : PyData → PyData)
    (h : ∀ d x H1, d ∈ ds → Same H H1 → Dq K H1 x d → EvD K te ((wipe σ [i]).set i (some x)) H1 (f d))
    (hw : ∀ x : V, wipe ((wipe σ [i]).set i (some x)) [i] = wipe σ [i] := by intro _; rfl) : EvL K (tLc wi (gName i) tYes te [i]) σ H (ds.map f) :=
  (evl_lc hs hl (fun d => some (f d)) (fun d x H1 hd s dx => ⟨evb_yes, h d x H1 hd s dx⟩) hw).is (by rw [List.filterMap_eq_map'])
/-- [e for x, y in ..], pairs -/
theorem evl_map2 {i j : Nat} (hs : EvI Same K wi σ H ds) (hl : ds.length ≤ 100000) (f : PyData → PyData) (hp : ∀ d ∈ ds, ∃ a b, d = .tuple [a, b])
    (h : ∀ a b x y H1, .tuple [a, b] ∈ ds → Same H H1 → Dq K H1 x a → Dq K H1 y b → EvD K te (((wipe σ [i, j]).set i (some x)).set j (some y)) H1 (f (.tuple [a, b])))
    (hw : ∀ x y : V, wipe (((wipe σ [i, j]).set i (some x)).set j (some y)) [i, j] = wipe σ [i, j] := by intro _ _; rfl) :
    EvL K (tLc wi (gTup K 2 (gCons (gName i) (gCons (gName j) gNil))) tYes te [i, j]) σ H (ds.map f) :=
  (evl_lcG hs hl (fun d => some (f d)) (fun d σ2 H1 => ∃ a b x y, d = .tuple [a, b] ∧ Dq K H1 x a ∧ Dq K H1 y b ∧ σ2 = ((wipe σ [i, j]).set i (some x)).set j (some y))
    (fun d x H1 hd _ dx Q q => by
      obtain ⟨a, b, rfl⟩ := hp d hd
      obtain ⟨p, xs, rfl, h1, h2⟩ := dx.tupE
      obtain ⟨u, v, rfl, k1, k2⟩ := h2.two
      exact ⟨p, _, rfl, h1, rfl, u, [v], rfl, v, [], rfl, rfl, q _ ⟨a, b, u, v, rfl, k1, k2, rfl⟩ (hw u v)⟩)
    (fun d σ2 H1 hd s ⟨a, b, x, y, e1, k1, k2, e2⟩ => by
      subst e1
      rw [e2]
      exact ⟨evb_yes, h a b x y H1 hd s k1 k2⟩)).is (by rw [List.filterMap_eq_map'])
end
end KD

set_option maxRecDepth 100000
set_option maxHeartbeats 2000000
/-! for and while over data. -/
namespace KD
open PySem PySem.Spec PyProof.Rows L2
section
variable {Rl : Hp → Hp → Prop} {K : PySem.W.Frag} {H H' : Hp} {σ : L2.St} {te : TE} {tt : TT} {ds : List PyData} {wi : TI} {J : It} {tb : TS} {D : Ends}
/-- a list that stands may be walked while others change -/
theorem evi_listF {p : Addr} {xs : List V} (hs : SqL K H p xs) (hd : DqAll K H xs ds) (ha : ∀ H1, Same H H1 → ∀ Q : VK, (∀ H2, Same H1 H2 → Q (.ref p) H2) → te σ H1 Q) :
    EvI (fun _ H' => SqL K H' p xs ∧ DqAll K H' xs ds) K (iList K te) σ H ds := fun H1 s R q => ha H1 s _ fun H2 s2 => by
  have h1 : SqL K H2 p xs := sqL_same (s.trans s2) hs
  refine ⟨p, rfl, ⟨xs, h1⟩, q _ H2 s2 ⟨fun H' k => ?_, fun i d H' e k => ?_, fun i d x H' H'' e k y => ?_⟩⟩
  · exact ⟨xs, k.1, by rw [k.2.length]; exact Nat.le_refl _⟩
  · obtain ⟨v, hv, _⟩ := k.2.get e
    exact ⟨xs, v, k.1, hv⟩
  · obtain ⟨v, hv, hp⟩ := k.2.get e
    obtain ⟨rfl, z⟩ := y
    have := (z xs k.1).symm.trans hv
    cases this
    exact ⟨Same.refl _, hp⟩
theorem evs_forG {g : TG} (hs : EvI Rl K wi σ H ds) (Pv : Hp → Nat → L2.St → Hp → Prop) (hk : ∀ H2 i σ' H', Same H H2 → i ≤ ds.length → Pv H2 i σ' H' → Rl H2 H') (h0 : ∀ H2, Same H H2 → Pv H2 0 σ H2)
    (step : ∀ H2 i d σ' H' x H'', Same H H2 → ds[i]? = some d → Pv H2 i σ' H' → Same H' H'' → Dq K H'' x d → g x σ' H'' fun σ2 H3 => tb { D with nx := Pv H2 (i + 1), ct := Pv H2 (i + 1), bk := D.nx } σ2 H3)
    (fin : ∀ H2 σ' H', Same H H2 → Pv H2 ds.length σ' H' → D.nx σ' H') : tFor wi g tb D σ H := by
  refine hs H (Same.refl H) _ fun J H2 s2 it => ?_
  refine ⟨fun i m σ' H' => m = ds.length - i ∧ i ≤ ds.length ∧ Pv H2 i σ' H', ⟨ds.length, by simp, Nat.zero_le _, h0 H2 s2⟩, ?_⟩
  rintro i m σ' H' ⟨rfl, hi, p⟩
  have r := hk H2 i σ' H' s2 hi p
  by_cases lt : i < ds.length
  · have e : ds[i]? = some ds[i] := List.getElem?_eq_getElem lt
    refine .inr ⟨it.go i _ H' e r, fun σ'' H'' => Pv H2 (i + 1) σ'' H'', fun σ'' H'' p' => ⟨ds.length - (i + 1), by omega, rfl, lt, p'⟩, fun x H'' y => ?_⟩
    obtain ⟨s3, dx⟩ := it.yld i _ x H' H'' e r y
    exact step H2 i _ σ' H' x H'' s2 e p s3 dx
  · have e : i = ds.length := by omega
    subst e
    exact .inl ⟨it.stop H' r, fin H2 σ' H' s2 p⟩
theorem evs_for {t : Nat} (hs : EvI Rl K wi σ H ds) (Pv : Hp → Nat → L2.St → Hp → Prop) (hk : ∀ H2 i σ' H', Same H H2 → i ≤ ds.length → Pv H2 i σ' H' → Rl H2 H') (h0 : ∀ H2, Same H H2 → Pv H2 0 σ H2)
    (step : ∀ H2 i d σ' H' x H'', Same H H2 → ds[i]? = some d → Pv H2 i σ' H' → Same H' H'' → Dq K H'' x d → tb { D with nx := Pv H2 (i + 1), ct := Pv H2 (i + 1), bk := D.nx } (σ'.set t (some x)) H'')
    (fin : ∀ H2 σ' H', Same H H2 → Pv H2 ds.length σ' H' → D.nx σ' H') : tFor wi (gName t) tb D σ H := evs_forG hs Pv hk h0 step fin
/-- t1, .., tn = e, a tuple of four -/
theorem evs_tup4 {i j k l : Nat} {a b c d : PyData} (h : EvD K te σ H (.tuple [a, b, c, d]))
    (q : ∀ x y z u H1, Same H H1 → Dq K H1 x a → Dq K H1 y b → Dq K H1 z c → Dq K H1 u d → D.nx ((((σ.set i (some x)).set j (some y)).set k (some z)).set l (some u)) H1) :
    tAsg te (gTup K 4 (gCons (gName i) (gCons (gName j) (gCons (gName k) (gCons (gName l) gNil))))) D σ H := h.use _ fun v H1 s p => by
  obtain ⟨ad, xs, rfl, h1, h2⟩ := p.tupE
  obtain ⟨x, y, z, u, rfl, k1, k2, k3, k4⟩ := h2.four
  exact ⟨ad, _, rfl, h1, rfl, x, _, rfl, y, _, rfl, z, _, rfl, u, _, rfl, rfl, q x y z u H1 s k1 k2 k3 k4⟩
theorem evs_tup3 {i j k : Nat} {a b c : PyData} (h : EvD K te σ H (.tuple [a, b, c]))
    (q : ∀ x y z H1, Same H H1 → Dq K H1 x a → Dq K H1 y b → Dq K H1 z c → D.nx (((σ.set i (some x)).set j (some y)).set k (some z)) H1) :
    tAsg te (gTup K 3 (gCons (gName i) (gCons (gName j) (gCons (gName k) gNil)))) D σ H := h.use _ fun v H1 s p => by
  obtain ⟨ad, xs, rfl, h1, h2⟩ := p.tupE
  obtain ⟨x, y, z, rfl, k1, k2, k3⟩ := h2.three
  exact ⟨ad, _, rfl, h1, rfl, x, _, rfl, y, _, rfl, z, _, rfl, rfl, q x y z H1 s k1 k2 k3⟩
theorem evs_tup2 {i j : Nat} {a b : PyData} (h : EvD K te σ H (.tuple [a, b]))
    (q : ∀ x y H1, Same H H1 → Dq K H1 x a → Dq K H1 y b → D.nx ((σ.set i (some x)).set j (some y)) H1) :
    tAsg te (gTup K 2 (gCons (gName i) (gCons (gName j) gNil))) D σ H := h.use _ fun v H1 s p => by
  obtain ⟨ad, xs, rfl, h1, h2⟩ := p.tupE
  obtain ⟨x, y, rfl, k1, k2⟩ := h2.two
  exact ⟨ad, _, rfl, h1, rfl, x, _, rfl, y, _, rfl, rfl, q x y H1 s k1 k2⟩
/-- a name gets a new list -/
theorem evs_setL {i : Nat} (h : EvL K te σ H ds) (q : ∀ p xs H1, H p = none → Same H H1 → H1 p = some (.lst xs) → DqAll K H1 xs ds → D.nx (σ.set i (some (.ref p))) H1) : tAsg te (gName i) D σ H := h.use _ q
/-- tuple(new list) -/
def rTupS (K : PySem.W.Frag) : List V → Hp → VK → Prop := fun xs H Q => ∃ p ys, xs = [.ref p] ∧ ((SqL K H p ys ∧ ∀ l, H l = none → Q (.ref l) (upd H l (.tup ys))) ∨ (SqT K H p ys ∧ Q (.ref p) H))
theorem evd_tupleL (h : EvL K te σ H ds) : EvD K (tCB (rTupS K) (tCons te tNil)) σ H (.tuple ds) := fun H1 s Q q =>
  h H1 s _ fun p xs H2 hp s2 e2 d2 => ⟨p, xs, rfl, .inl ⟨.inl (.inl e2), fun l hl => q _ _ _ (s2.trans (same_new hl)) (.tup (.inl (.inl upd_same)) (d2.mono (same_new hl))) rfl⟩⟩
theorem evd_tupleLs {p : Addr} {xs : List V} (hs : SqL K H p xs) (hd : DqAll K H xs ds) (ha : ∀ H1, Same H H1 → ∀ Q : VK, (∀ H2, Same H1 H2 → Q (.ref p) H2) → te σ H1 Q) : EvD K (tCB (rTupS K) (tCons te tNil)) σ H (.tuple ds) := fun H1 s Q q =>
  ha H1 s _ fun H2 s2 => ⟨p, xs, rfl, .inl ⟨sqL_same (s.trans s2) hs, fun l hl => q _ _ _ (s2.trans (same_new hl)) (.tup (.inl (.inl upd_same)) ((hd.mono (s.trans s2)).mono (same_new hl))) rfl⟩⟩
end
end KD

set_option maxRecDepth 100000
set_option maxHeartbeats 2000000
/-! The rules that name the written part, by a letter of its own (within a comprehension too). -/
namespace KD
open PySem PySem.Spec PyProof.Rows L2
section
variable {X : Cx} {K : PySem.W.Frag}
theorem kLen (hK : X.K = K := by rfl) : CallR X (.builtin "len") (rLenS K) := by subst hK; exact call_len_seq
theorem kAll (hc : X.calm = true := by rfl) (hK : X.K = K := by rfl) : CallR X (.builtin "all") (rAll K) := by subst hK; exact cr_all hc
theorem kAny (hc : X.calm = true := by rfl) (hK : X.K = K := by rfl) : CallR X (.builtin "any") (rAny K) := by subst hK; exact cr_any hc
theorem kMin (hc : X.calm = true := by rfl) (hK : X.K = K := by rfl) : CallR X (.builtin "min") (rMin K) := by subst hK; exact cr_min hc
theorem kMax (hc : X.calm = true := by rfl) (hK : X.K = K := by rfl) : CallR X (.builtin "max") (rMax K) := by subst hK; exact cr_max hc
theorem kSorted (hK : X.K = K := by rfl) : CallR X (.builtin "sorted") (rSortedI K) := by subst hK; exact cr_sortedI
theorem kIsi (hK : X.K = K := by rfl) : CallR X (.builtin "isinstance") (rIsi K) := by subst hK; exact call_isi
theorem kIxT (hK : X.K = K := by rfl) : IxR X (rIxT K) := by subst hK; exact ix_tup
theorem kIxL (hK : X.K = K := by rfl) : IxR X (rIxL K) := by subst hK; exact ix_list
theorem kEqD (hu : X.A.units + 64 < cLine) (hK : X.K = K := by rfl) : OpR X (compareOp .Eq) (rEqD K) := by subst hK; exact op_eqD hu
theorem kNeD (hu : X.A.units + 64 < cLine) (hK : X.K = K := by rfl) : OpR X (compareOp .NotEq) (rNeD K) := by subst hK; exact op_neD hu
theorem kInS (hK : X.K = K := by rfl) : OpR X (compareOp .In) (rIn K false) := by subst hK; exact op_in_seq
theorem kNotInS (hK : X.K = K := by rfl) : OpR X (compareOp .NotIn) (rIn K true) := by subst hK; exact op_notIn_seq
theorem kTup (hK : X.K = K := by rfl) : CallR X (.type "tuple") (rTupS K) := by subst hK; exact call_tuple_of
theorem kCatT (hK : X.K = K := by rfl) : OpR X (binaryOp .Add) (rCatA K) := by subst hK; exact op_catA
theorem kRepT (hK : X.K = K := by rfl) : OpR X (binaryOp .Mult) (rRepT K) := by subst hK; exact op_repT
theorem kSlT (hK : X.K = K := by rfl) : SlR X (rSlT K) := by subst hK; exact sl_tup
theorem kiList {tg l : Expr} {tl : TE} (hl : PE X l tl) (hK : X.K = K := by rfl) : PI X tg l (iList K tl) := by subst hK; exact pi_list hl
theorem kiTup {tg l : Expr} {tl : TE} (hl : PE X l tl) (hK : X.K = K := by rfl) : PI X tg l (iTup K tl) := by subst hK; exact pi_tup hl
theorem kgTup {es : List Expr} {k : Nat} {t : TGs} {pos : Pos} {n : Nat} (hc : X.calm = true) (h : PGs X es t) (hn : (assignEach es X.env).length = n := by rfl) (hst : (assignEach es X.env).findIdx? (·.1) = none := by rfl) (hK : X.K = K := by rfl) :
    PG X (.Tuple es k pos) (gTup K n t) := by
  subst hK
  exact pg_tup (n := n) hc h hn hst
end
/-- x += y at a name, ints -/
theorem evs_aug {K : PySem.W.Frag} {H : Hp} {σ : L2.St} {te : TE} {D : Ends} {i : Nat} {a b : Int} (h0 : σ[i]? = some (some (.int a))) (h : EvD K te σ H (.int b)) (q : ∀ H1, Same H H1 → D.nx (σ.set i (some (.int (a + b)))) H1) :
    tAug i te (ipI fun i j => i + j) D σ H := ⟨_, h0, h.use _ fun v H1 s p => by
  cases p
  exact ⟨a, b, rfl, rfl, q H1 s⟩⟩
/-! ### a statement and what stands behind it -/
section
variable {Rl : Hp → Hp → Prop} {K : PySem.W.Frag} {H : Hp} {σ : L2.St} {te : TE} {tt : TT} {ds : List PyData} {wi : TI} {tb t1 t2 u : TS} {D : Ends} {d : PyData}
theorem evq_set {P : PyData → Prop} {i : Nat} (h : EvP K te σ H P) (q : ∀ v H1 r, Same H H1 → Dq K H1 v r → P r → u D (σ.set i (some v)) H1) : tSeq (tAsg te (gName i)) u D σ H := h.use _ q
theorem evq_setD {i : Nat} (h : EvD K te σ H d) (q : ∀ v H1, Same H H1 → Dq K H1 v d → u D (σ.set i (some v)) H1) : tSeq (tAsg te (gName i)) u D σ H := h.use _ q
theorem evq_setL {i : Nat} (h : EvL K te σ H ds) (q : ∀ p xs H1, H p = none → Same H H1 → H1 p = some (.lst xs) → DqAll K H1 xs ds → u D (σ.set i (some (.ref p))) H1) : tSeq (tAsg te (gName i)) u D σ H := h.use _ q
theorem evq_drop {P : PyData → Prop} (h : EvP K te σ H P) (q : ∀ H1 r, Same H H1 → P r → u D σ H1) : tSeq (tDrop te) u D σ H := h.use _ fun v H1 r s p e => q H1 r s e
theorem evq_aug {i : Nat} {a b : Int} (h0 : σ[i]? = some (some (.int a))) (h : EvD K te σ H (.int b)) (q : ∀ H1, Same H H1 → u D (σ.set i (some (.int (a + b)))) H1) : tSeq (tAug i te (ipI fun i j => i + j)) u D σ H := evs_aug h0 h q
theorem evq_tup4 {i j k l : Nat} {a b c e : PyData} (h : EvD K te σ H (.tuple [a, b, c, e]))
    (q : ∀ x y z v H1, Same H H1 → Dq K H1 x a → Dq K H1 y b → Dq K H1 z c → Dq K H1 v e → u D ((((σ.set i (some x)).set j (some y)).set k (some z)).set l (some v)) H1) :
    tSeq (tAsg te (gTup K 4 (gCons (gName i) (gCons (gName j) (gCons (gName k) (gCons (gName l) gNil)))))) u D σ H := evs_tup4 h q
theorem evq_tup3 {i j k : Nat} {a b c : PyData} (h : EvD K te σ H (.tuple [a, b, c])) (q : ∀ x y z H1, Same H H1 → Dq K H1 x a → Dq K H1 y b → Dq K H1 z c → u D (((σ.set i (some x)).set j (some y)).set k (some z)) H1) :
    tSeq (tAsg te (gTup K 3 (gCons (gName i) (gCons (gName j) (gCons (gName k) gNil))))) u D σ H := evs_tup3 h q
theorem evq_tup2 {i j : Nat} {a b : PyData} (h : EvD K te σ H (.tuple [a, b])) (q : ∀ x y H1, Same H H1 → Dq K H1 x a → Dq K H1 y b → u D ((σ.set i (some x)).set j (some y)) H1) :
    tSeq (tAsg te (gTup K 2 (gCons (gName i) (gCons (gName j) gNil)))) u D σ H := evs_tup2 h q
/-- if without else -/
theorem evq_ifn {b : Bool} (h : EvB tt σ H b) (h1 : b = true → ∀ H1, Same H H1 → t1 { D with nx := u D } σ H1) (h2 : b = false → ∀ H1, Same H H1 → u D σ H1) : tSeq (tIfS tt t1 tNext) u D σ H := evs_if h h1 h2
theorem evq_if {b : Bool} (h : EvB tt σ H b) (h1 : b = true → ∀ H1, Same H H1 → t1 { D with nx := u D } σ H1) (h2 : b = false → ∀ H1, Same H H1 → t2 { D with nx := u D } σ H1) : tSeq (tIfS tt t1 t2) u D σ H := evs_if h h1 h2
theorem evq_for {t : Nat} (hs : EvI Rl K wi σ H ds) (Pv : Hp → Nat → L2.St → Hp → Prop) (hk : ∀ H2 i σ' H', Same H H2 → i ≤ ds.length → Pv H2 i σ' H' → Rl H2 H') (h0 : ∀ H2, Same H H2 → Pv H2 0 σ H2)
    (step : ∀ H2 i d σ' H' x H'', Same H H2 → ds[i]? = some d → Pv H2 i σ' H' → Same H' H'' → Dq K H'' x d → tb { D with nx := Pv H2 (i + 1), ct := Pv H2 (i + 1), bk := u D } (σ'.set t (some x)) H'')
    (fin : ∀ H2 σ' H', Same H H2 → Pv H2 ds.length σ' H' → u D σ' H') : tSeq (tFor wi (gName t) tb) u D σ H := evs_for (D := { D with nx := u D }) hs Pv hk h0 step fin
theorem evq_par {i j : Nat} {a b : PyData} {ta : TA} (h : EvA K ta σ H [a, b]) (q : ∀ x y H1, Same H H1 → Dq K H1 x a → Dq K H1 y b → u D ((σ.set i (some x)).set j (some y)) H1) : tSeq (tPar i j ta) u D σ H := h H (Same.refl H) _ fun vs H1 s p => by
  obtain ⟨x, y, rfl, k1, k2⟩ := p.two
  exact ⟨x, y, rfl, q x y H1 s k1 k2⟩
end
end KD

set_option maxRecDepth 100000
set_option maxHeartbeats 2000000
/-! Comprehensions whose elements change what stands. -/
namespace KD
open PySem PySem.Spec PyProof.Rows L2
section
variable {Rl : Hp → Hp → Prop} {K : PySem.W.Frag} {H : Hp} {σ : L2.St} {te : TE} {tt : TT} {ds : List PyData} {wi : TI} {g : TG} {vs : List Nat} {Q : VK}
/-- D: the new list; Pv of the turn, what is made so far, the heap -/
theorem lc_inv (hs : EvI Rl K wi σ H ds) (hl : ds.length ≤ 100000) (Pv : Hp → Addr → Nat → List V → Hp → Prop)
    (hk : ∀ H2 D i acc H', Same H H2 → H2 D = none → i ≤ ds.length → Pv H2 D i acc H' → Rl H2 H') (h0 : ∀ H2 D, Same H H2 → H2 D = none → Pv H2 D 0 [] (upd H2 D (.lst [])))
    (step : ∀ H2 D i d acc H' x H'', Same H H2 → H2 D = none → ds[i]? = some d → H' D = some (.lst acc) → Pv H2 D i acc H' → Same H' H'' → Dq K H'' x d →
      g x (wipe σ vs) H'' fun σ2 H3 => wipe σ2 vs = wipe σ vs ∧ tt σ2 H3 fun b H4 => if b = true then te σ2 H4 fun y H5 => H5 D = some (.lst acc) ∧ Pv H2 D (i + 1) (acc ++ [y]) (upd H5 D (.lst (acc ++ [y]))) else H4 D = some (.lst acc) ∧ Pv H2 D (i + 1) acc H4)
    (mg : ∀ x σ' H' (Q1 Q2 : L2.St → Hp → Prop), (∀ a b, Q1 a b → Q2 a b) → g x σ' H' Q1 → g x σ' H' Q2) (mt : ∀ σ' H' (Q1 Q2 : Bool → Hp → Prop), (∀ a b, Q1 a b → Q2 a b) → tt σ' H' Q1 → tt σ' H' Q2)
    (me : ∀ σ' H' (Q1 Q2 : VK), (∀ a b, Q1 a b → Q2 a b) → te σ' H' Q1 → te σ' H' Q2)
    (fin : ∀ H2 D acc H', Same H H2 → H2 D = none → H' D = some (.lst acc) → Pv H2 D ds.length acc H' → Q (.ref D) H') : tLc wi g tt te vs σ H Q := by
  refine hs H (Same.refl H) _ fun J H2 s2 it => fun D hD => ?_
  refine ⟨fun i m H' => m = ds.length - i ∧ i ≤ ds.length ∧ ∃ acc, acc.length ≤ i ∧ H' D = some (.lst acc) ∧ Pv H2 D i acc H', ⟨ds.length, by simp, Nat.zero_le _, [], Nat.le_refl _, upd_same, h0 H2 D s2 hD⟩, ?_⟩
  rintro i m H' ⟨rfl, hi, acc, la, ea, p⟩
  have r := hk H2 D i acc H' s2 hD hi p
  by_cases lt : i < ds.length
  · have e : ds[i]? = some ds[i] := List.getElem?_eq_getElem lt
    refine .inr ⟨it.go i _ H' e r, fun H'' => i + 1 ≤ ds.length ∧ ∃ acc, acc.length ≤ i + 1 ∧ H'' D = some (.lst acc) ∧ Pv H2 D (i + 1) acc H'', fun H'' p' => ⟨ds.length - (i + 1), by omega, rfl, p'.1, p'.2⟩, fun x H'' y => ?_⟩
    obtain ⟨s3, dx⟩ := it.yld i _ x H' H'' e r y
    refine mg _ _ _ _ _ (fun σ2 H3 k => ⟨k.1, mt _ _ _ _ (fun b H4 k2 => ?_) k.2⟩) (step H2 D i _ acc H' x H'' s2 hD e ea p s3 dx)
    cases b with
    | true =>
      have k2 := k2
      simp only [if_true] at k2 ⊢
      refine me _ _ _ _ (fun y H5 k3 => ?_) k2
      exact ⟨acc, k3.1, len100 (by omega), lt, _, by simp; omega, upd_same, k3.2⟩
    | false =>
      have k2 := k2
      simp only [Bool.false_eq_true, if_false] at k2 ⊢
      exact ⟨lt, acc, by omega, k2.1, k2.2⟩
  · have e : i = ds.length := by omega
    subst e
    exact .inl ⟨it.stop H' r, fin H2 D acc H' s2 hD ea p⟩
end
end KD

set_option maxRecDepth 100000
set_option maxHeartbeats 4000000
/-! len(set(t)) of a tuple of different texts. -/
namespace KD
open PySem PySem.Spec PyProof.Rows L2

section
variable {prog : Program} {w : World} {A : Around} {R : Result → Shared → Prop} {J : Addr} {fp wr : List Addr} {G : Array GenState → Array GenState → Prop} {n : Nat} {P : Nat → Value → Prop} {St : Nat → Shared → Prop}
/-- the update's loop, from the i-th key on; the keys are different -/
theorem set_loop (W : WalksS prog w A.in1 J fp wr G n P St) (D : Addr) (fresh : D ∉ fp) (ks : List Str) (len : ks.length = n) (few : n + 1 < scanBound) (nd : ks.Nodup)
    (key : ∀ i v, P i v → ∃ k t, ks[i]? = some k ∧ v = .str k t) : ∀ (m i : Nat) (s : Shared), n - i = m → i ≤ n → St i s →
      s.heap.SetOf (PySem.strKind prog w) D (fun k => decide (k ∈ ks.take i)) i →
      (∀ s', Moved (D :: wr) G s s' → s'.heap.SetOf (PySem.strKind prog w) D (fun k => decide (k ∈ ks)) n → R (.ok (.ret .none)) s') →
      codeAny (model prog w) A (.builtin "set.update.loop" ⟨[.ref D, .ref J], []⟩) R s := by
  have outW : D ∉ wr := fun h => fresh (W.sub _ h)
  have stay : ∀ {s s' : Shared} {F : Str → Bool} {c : Nat}, s.heap.SetOf (PySem.strKind prog w) D F c → Moved wr G s s' → s'.heap.SetOf (PySem.strKind prog w) D F c := fun {s s' F c} q hm => by
    obtain ⟨o, es, ep, tb, ho, more⟩ := q
    exact ⟨o, es, ep, tb, hm.heap D _ outW ho, more⟩
  intro m
  induction m with
  | zero =>
    intro i s em le st q fin
    obtain rfl : i = n := by omega
    refine codeAny_builtin PyProof.Rows.F.entry_set_update_loop ?_
    rw [Around.under_plainId PyProof.Rows.F.plain_set_update_loop _]
    refine wpAny_bind (W.done s _ _ st fun s' hm => wpAny_pure (fin s' (hm.mono fun b hb => List.mem_cons_of_mem _ hb) ?_))
    have z := stay q hm
    rwa [← len, List.take_length, len] at z
  | succ m ih =>
    intro i s em le st q fin
    have lt : i < n := by omega
    refine codeAny_builtin PyProof.Rows.F.entry_set_update_loop ?_
    rw [Around.under_plainId PyProof.Rows.F.plain_set_update_loop _]
    refine wpAny_bind (W.item i s _ _ lt st fun v s' hv st' hm => ?_)
    obtain ⟨k, t, hk, rfl⟩ := key i v hv
    have isK : (PySem.strKind prog w).is k (.str k t) = true := strKind_is _ _ _ _
    have notIn : k ∉ ks.take i := fun hin => by
      obtain ⟨j, hj⟩ := List.mem_iff_getElem?.mp hin
      rw [List.getElem?_take] at hj
      by_cases c : j < i
      · rw [if_pos c] at hj
        have hjl : j < ks.length := by omega
        have := (List.getElem?_inj hjl nd).mp (hj.trans hk.symm)
        omega
      · rw [if_neg c] at hj
        cases hj
    refine wpAny_bind (wpAny_holding ?_)
    unfold setAdd
    refine wpAny_holding (wpAny_bind ((PySem.strKind prog w).pyHash isK ?_))
    refine wpAny_setAddHashed_of (knd := PySem.strKind prog w) (s := { s' with toks := s'.toks + 1 }) isK rfl (show s'.heap.SetOf _ _ _ _ from stay q hm) (by omega) fun h' sb more => ?_
    have next : h'.SetOf (PySem.strKind prog w) D (fun k => decide (k ∈ ks.take (i + 1))) (i + 1) := by
      refine SetOf_congr more (fun k' => ?_) (by simp [notIn])
      rw [List.take_add_one, hk]
      by_cases e : k' = k <;> by_cases e2 : k' ∈ ks.take i <;> simp [e, e2]
    have off : ∀ b, b ∈ fp → b ≠ D := fun b hb e => fresh (e ▸ hb)
    refine wpAny_pure ⟨plainId_quiet PyProof.Rows.F.plain_set_update_loop _, ih (i + 1) _ (by omega) lt (W.frame _ s' _ _ st' (Nat.le_succ _) fun b hb o e => ?_) next fun s2 hm2 q2 => fin s2 ?_ q2⟩
    · exact (sb.2 b (off b hb)).trans e
    · refine Moved.trans W.gtrans ((hm.mono fun b hb => List.mem_cons_of_mem _ hb).then_heap (Nat.le_succ _) fun b o hb e => ?_) hm2
      exact (sb.2 b fun z => hb (z ▸ List.mem_cons_self)).trans e
end
section
variable {prog : Program} {w : World} {A : Around} {E : Value → Shared → Prop} {s : Shared}
theorem set_of_tuple {l : Addr} {items : Array Value} {ks : List Str} {Q : Value → Shared → Prop} (calm : A.handled = none) (tup : s.heap.IsTuple l items) (are : PyProof.Rows.StrsAre items.toList ks) (nd : ks.Nodup) (few : ks.length + 1 < scanBound)
    (h : ∀ (h' : Heap) (tk : Nat), h'.SetOf (PySem.strKind prog w) s.heap.objs.size (fun k => decide (k ∈ ks)) ks.length → (∀ b o, s.heap.get? b = some o → h'.get? b = some o) → Q (.ref s.heap.objs.size) { s with heap := h', toks := tk }) :
    wpAny (model prog w) A (call (.type "set") [.ref l]) Q E s := by
  have size : ks.length = items.size := by rw [← StrsAre.len_eq are, Array.length_toList]
  obtain ⟨c, tl, mro⟩ := PySem.F.called_set.mro
  have made := PySem.F.called_set.made
  have sub := PySem.F.called_set.sub
  have notType := PySem.F.called_set.notType
  have can := PySem.F.called_set.canCreate
  have tc := PySem.F.typeCall_set_1 (.ref l)
  refine wpAny_call (codeAny_of_tree (wpAny_pure ⟨Code.quiet_builtin _ (by decide +kernel), codeAny_builtin PySem.F.entry_type_call ?_⟩))
  rw [Around.under_plain (weight_type_call_type "set" [.ref l] []) rfl]
  repeat (any_goals (first | assumption | wp_step))
  generalize eD : s.heap.objs.size = D at h ⊢
  refine codeAny_mono (code_set_new_1 (.ref l) (E := E) (Q₁ := fun ob s1 => ∃ led : Bool, ob = .ref D ∧ s1 = { s with heap := s.heap.push { cls := .type "set", dict := none, data := .set #[] 0 (.fresh 0 0 led) } }) fun led => ⟨led, by rw [eD], rfl⟩) fun r s1 hr => ?_
  cases r with
  | error e => exact hr
  | ok fl =>
  cases fl with
  | ret ob =>
    obtain ⟨led, rfl, rfl⟩ := hr
    generalize eN : ({ cls := .type "set", dict := none, data := .set #[] 0 (.fresh 0 0 led) } : Obj) = N
    have atD : (s.heap.push N).get? D = some N := by
      rw [← eD]
      exact Heap.get?_push_size _ (by rw [← eN]; rfl)
    have isS : Shared.TypeIs { s with heap := s.heap.push N } (.ref D) "set" := ⟨_, atD, by rw [← eN]⟩
    have li := PySem.F.called_set.init.lookup
    have bi := PySem.F.called_set.init.bind (.ref D)
    repeat (any_goals (first | assumption | wp_step))
    refine codeAny_mono (codeAny_call_builtin (R := wants (fun r s2 => r = .none ∧ ∃ h' tk, s2 = { s with heap := h', toks := tk } ∧ h'.SetOf (PySem.strKind prog w) D (fun k => decide (k ∈ ks)) ks.length ∧ ∀ b o, s.heap.get? b = some o → h'.get? b = some o) E)
      PySem.F.called_set.init.plain PySem.F.entry_set_init (check_set_init_1 isS ?_)) fun r2 s2 hr2 => ?_
    · obtain ⟨⟨oc, od, oda, osl⟩, ho, hc, nl, hd⟩ := tup
      simp only at hc hd
      subst hc
      subst hd
      have ho1 : (s.heap.push N).get? l = some { cls := .type "tuple", dict := od, data := .seq items nl, slots := osl } := Heap.get?_push_of_some _ ho
      have tup1 : (s.heap.push N).IsTuple l items := ⟨_, ho1, rfl, nl, rfl⟩
      have ltl : l < D := by rw [← eD]; exact Heap.lt_size ho
      have sz1 : (s.heap.push N).objs.size = D + 1 := by rw [Heap.size_push, eD]
      have sTs := PySem.F.sub_tuple_set
      have sTf := PySem.F.sub_tuple_frozenset
      have ne : (Value.type "tuple" == Value.type "dict") = false := by decide
      have neI : l ≠ (s.heap.push N).objs.size := by rw [sz1]; exact Nat.ne_of_lt (Nat.lt_succ_of_lt ltl)
      have offD : D ∉ [(s.heap.push N).objs.size, l] := by
        rw [sz1]
        simp only [List.mem_cons, List.not_mem_nil, or_false, not_or]
        exact ⟨Nat.ne_of_lt (Nat.lt_succ_self _), Nat.ne_of_gt ltl⟩
      subst eN
      unfold Builtin.«set.__init__» noKeywords Builtin.Frozenset.updateFrom
      generalize hPI : pyIter = PI
      wp_walk
      subst hPI
      refine wpAny_pyIter_tuple tup1 ?_
      refine wpAny_bind (wpAny_runValue ?_)
      refine set_loop ((Walks.tuple (show A.in1.in1.in1.handled = none by simp [calm]) _ l neI items).toS) D offD ks size (by rw [← size]; exact few) nd (fun i v hv => ?_) (items.size - 0) 0 _ (by omega) (Nat.zero_le _) ⟨⟨_, Heap.get?_push_size _ rfl, rfl, rfl⟩, tup1.push _⟩ ?_ fun s' hm q => ?_
      · have hi : i < ks.length := by rw [size]; exact (Array.getElem?_eq_some_iff.mp hv).1
        obtain ⟨t, e⟩ := SS.strs_at are i v (by rw [Array.getElem?_toList]; exact hv)
        refine ⟨ks[i], t, List.getElem?_eq_getElem hi, ?_⟩
        rw [e, List.getD_eq_getElem?_getD, List.getElem?_eq_getElem hi]
        rfl
      · refine SetOf_congr ((PyProof.Rows.setObjOf_fresh (knd := PySem.strKind prog w) led).setOf ?_ (by unfold scanBound; omega)) (fun _ => by simp) rfl
        exact Heap.get?_push_of_some _ atD
      · obtain ⟨h', g', d', tk', os'⟩ := s'
        have e1 : g' = s.gens := hm.gens
        have e2 : d' = s.drawn := hm.drawn
        have e3 : os' = s.os := hm.os
        subst e1; subst e2; subst e3
        show wpAny _ _ _ _ _ _
        refine wpAny_pure ?_
        refine wpAny_pure ⟨rfl, h', tk', rfl, by rw [size]; exact q, fun b o e => ?_⟩
        have lt : b < D := by rw [← eD]; exact Heap.lt_size e
        refine hm.heap b o ?_ (Heap.get?_push_of_some _ (Heap.get?_push_of_some _ e))
        rw [sz1]
        simp only [List.mem_cons, List.not_mem_nil, or_false, not_or]
        exact ⟨Nat.ne_of_lt lt, Nat.ne_of_lt (Nat.lt_succ_of_lt lt)⟩
    · cases r2 with
      | error e2 => exact hr2
      | ok fl2 =>
      cases fl2 with
      | ret r =>
        obtain ⟨rfl, h', tk, rfl, q, old⟩ := hr2
        repeat (any_goals (first | assumption | wp_step))
        exact h _ _ q old
      | _ => exact hr2.elim
  | _ => exact hr.elim
end
/-- len(set(t)), t a tuple of different texts -/
def tLenSetS (K : PySem.W.Frag) (ta : TE) : TE := fun σ H Q => ta σ H fun x H1 => ∃ (l : Addr) (ks : List Str), x = .ref l ∧ SqT K H1 l (ks.map V.str) ∧ ks.Nodup ∧ ks.length ≤ 1000 ∧ Q (.int ks.length) H1
theorem pe_lenSetS {X : Cx} {a : Expr} {ta : TE} {p p2 q pos : Pos} (calm : X.calm = true) (hg : Gl X "len") (hm : X.mg "len" = none) (hg2 : Gl X "set") (hm2 : X.mg "set" = none) (ha : PE X a ta)
    (na : starEach [a] X.env = (false, eval a X.env) :: starEach [] X.env := by rfl) : PE X (.Call (.Name "len" p) [.Call (.Name "set" p2) [a] [] q] [] pos) (tLenSetS X.K ta) := ⟨fun pins s σ H Q I h => by
  refine Call_ (ld_blt I hg hm boot_len (PyProof.Rows.callWith_builtin1 (PyProof.Rows.args_cons ?_ rfl) rfl rfl))
  refine Call_ (ld_blt I hg2 hm2 boot_set (PyProof.Rows.callWith_type1 (PyProof.Rows.args_cons (thn (ha.run pins s σ H _ I h) fun v s1 k => PyProof.Rows.args_nil ?_) na) na rfl))
  obtain ⟨x, H1, I1, r1, l, ks, rfl, hl, nd, few, k⟩ := k
  cases r1
  obtain ⟨its, r, pl, _⟩ := I1.tuple hl
  refine set_of_tuple (I1.ok.hd calm) pl (by simpa using strsAre_of r) nd (by unfold scanBound; omega) fun h' tk hS old => PyProof.Rows.args_nil ?_
  obtain ⟨o, es, ep, t, ho, hex, hd, _, _, _, hf, hn⟩ := hS
  have I2 : Inv X pins σ H1 { s1 with heap := h', toks := tk } := I1.kept fun b o e => old b o e
  exact call_len_set ho hex hd hf (by rw [hn]; omega) ⟨.int ks.length, H1, I2.tok _, ⟨_, by rw [hn]⟩, k⟩⟩
end KD

set_option maxRecDepth 100000
set_option maxHeartbeats 2000000
/-! Keys of dicts that are tuples of data, nested: hash, ==, the kind. -/
namespace KD
open PySem PySem.Spec PyProof.Rows L2
open Sem (wp)

mutual
/-- None, ints, texts, tuples of them, nested to n at most -/
def keyable : Nat → PyData → Bool
  | _, .none => true
  | _, .int _ => true
  | _, .str x => PyData.canLay0 (.str x)
  | 0, .tuple _ => false
  | n + 1, .tuple ds => keyableAll n ds
  | _, _ => false
def keyableAll : Nat → List PyData → Bool
  | _, [] => true
  | n, d :: ds => keyable n d && keyableAll n ds
end
mutual
def hashD (w : World) : PyData → Int
  | .none => reduceHash 0xFCA86420
  | .int i => hashInt i
  | .str x => hashStr w x
  | .tuple ds => reduceHash (Builtin.Tuple.tupleHashOf (hashAll w ds))
  | _ => 0
def hashAll (w : World) : List PyData → List Int
  | [] => []
  | d :: ds => hashD w d :: hashAll w ds
end
mutual
def drawsD : PyData → Nat
  | .tuple ds => drawsAll ds + 1
  | _ => 1
def drawsAll : List PyData → Nat
  | [] => 0
  | d :: ds => drawsD d + drawsAll ds
end
theorem hashAll_append (w : World) : ∀ (xs ys : List PyData), hashAll w (xs ++ ys) = hashAll w xs ++ hashAll w ys
  | [], _ => by simp [hashAll]
  | x :: xs, ys => by simp [hashAll, hashAll_append w xs ys]
theorem drawsAll_append : ∀ (xs ys : List PyData), drawsAll (xs ++ ys) = drawsAll xs + drawsAll ys
  | [], _ => by simp [drawsAll]
  | x :: xs, ys => by
    have := drawsAll_append xs ys
    simp only [List.cons_append, drawsAll]
    omega
theorem keyableAll_mem {n : Nat} : ∀ {ds : List PyData}, keyableAll n ds = true → ∀ d ∈ ds, keyable n d = true
  | [], _, d, hd => by simp at hd
  | x :: xs, h, d, hd => by
    simp only [keyableAll, Bool.and_eq_true] at h
    rcases List.mem_cons.mp hd with rfl | hd
    · exact h.1
    · exact keyableAll_mem h.2 d hd

section
variable {prog : Program} {w : World} {A : Around} {E : Value → Shared → Prop} {s : Shared}
theorem pyHash_tuple_of {n : Nat} (ih : ∀ (d : PyData) (A : Around) (E : Value → Shared → Prop) (s : Shared) (v : Value) (as : List Addr) (Q : Int → Shared → Prop), keyable n d = true → A.units + n < cLine → Reads s.heap v d as →
      Q (hashD w d) { s with toks := s.toks + drawsD d } → wpAny (model prog w) A (pyHash v) Q E s)
    {ds : List PyData} {a : Addr} {as : List Addr} {Q : Int → Shared → Prop} (hk : keyableAll n ds = true) (hu : A.units + (n + 1) < cLine) (hr : Reads s.heap (.ref a) (.tuple ds) as)
    (q : Q (hashD w (.tuple ds)) { s with toks := s.toks + drawsD (.tuple ds) }) : wpAny (model prog w) A (pyHash (.ref a)) Q E s := by
  cases hr with
  | @tuple _ o vs m _ _ ho hc hd hitems =>
  have ty : s.TypeIs (.ref a) "tuple" := ⟨o, ho, hc⟩
  unfold pyHash
  first | unfold pyHashByItsType | skip
  first | refine wpAny_bind (wpAny_cRoomFor_or (.inr (show A.units < cLine by omega)) ?_) | skip
  refine wpAny_bind (wpAny_specialOf ty F.slot_tuple_hash.lookup ?_)
  show wpAny _ _ (if (some (Value.builtin "tuple.__hash__") == some Value.none) = true then _ else _) Q E s
  rw [if_neg (by rw [beq_builtin_none]; exact Bool.false_ne_true)]
  refine wpAny_bind (wpAny_specialOf ty F.slot_tuple_hash.lookup (wpAny_bind (wpAny_callSpecialIfBoundUnlessNone?_slot ty F.slot_tuple_hash (wpAny_call_entry F.slot_tuple_hash ty F.entry_tuple_hash ?_ (F.args_tuple_hash_1 _)))))
  show wpAny _ _ (Builtin.Tuple.tupleItemsOf (.ref a) >>= _) _ _ s
  refine wpAny_bind (wpAny_tupleItemsOf ho hd (wpAny_bind ?_))
  rw [← Array.forIn_toList]
  refine wpAny_forIn_list _ (fun left (b : Array Int) s' => ∃ xs ys bs, ds = xs ++ ys ∧ ReadsAll s.heap left ys bs ∧ b.toList = hashAll w xs ∧ s' = { s with toks := s.toks + drawsAll xs }) _ ?_ ?_ _ _ ⟨[], ds, _, rfl, hitems, by simp [hashAll], by simp [drawsAll]⟩
  · rintro x left b s' ⟨xs, ys, bs, rfl, hl, hb, rfl⟩
    cases hl with
    | @cons _ _ d ys' as' bs' h1 h2 =>
      have kd : keyable n d = true := keyableAll_mem hk d (by simp)
      refine wpAny_bind (ih d _ _ { s with toks := s.toks + drawsAll xs } x _ _ kd ?_ h1 ?_)
      · first | (show A.units + n < cLine; omega) | (show A.units + 1 + n < cLine; omega)
      · have fin : ∃ xs' ys bs, xs ++ d :: ys' = xs' ++ ys ∧ ReadsAll s.heap left ys bs ∧ (b.push (hashD w d)).toList = hashAll w xs' ∧ ({ s with toks := s.toks + drawsAll xs + drawsD d } : Shared) = { s with toks := s.toks + drawsAll xs' } :=
          ⟨xs ++ [d], ys', bs', by simp, h2, by rw [Array.toList_push, hb, hashAll_append]; simp [hashAll], by rw [drawsAll_append]; simp [drawsAll, Nat.add_assoc]⟩
        first
          | exact wpAny_pure fin
          | exact wpAny_bind (wpAny_pure (wpAny_pure fin))
  · rintro b s' ⟨xs, ys, bs, e, hl, hb, rfl⟩
    cases hl
    rw [List.append_nil] at e
    subst e
    show wpAny _ _ (retInt (Builtin.Tuple.tupleHashOf b.toList)) _ _ _
    rw [hb]
    refine wpAny_ret_mkInt ?_
    show wpAny _ _ (if (decide (-(2 : Int) ^ 63 ≤ Builtin.Tuple.tupleHashOf (hashAll w ds)) && decide (Builtin.Tuple.tupleHashOf (hashAll w ds) < 2 ^ 63)) = true then _ else _) Q E _
    simp only [hashD, drawsD, reduceHash] at q
    by_cases hr : (decide (-(2 : Int) ^ 63 ≤ Builtin.Tuple.tupleHashOf (hashAll w ds)) && decide (Builtin.Tuple.tupleHashOf (hashAll w ds) < 2 ^ 63)) = true
    · rw [if_pos hr]
      rw [if_pos hr] at q
      exact wpAny_pure (by simpa [Nat.add_assoc] using q)
    · rw [if_neg hr]
      rw [if_neg hr] at q
      exact wpAny_bind (wpAny_rule (wpAny_pure (by simpa [Nat.add_assoc] using q)))
end
theorem pyHash_data {prog : Program} {w : World} : ∀ (n : Nat) (d : PyData) (A : Around) (E : Value → Shared → Prop) (s : Shared) (v : Value) (as : List Addr) (Q : Int → Shared → Prop), keyable n d = true → A.units + n < cLine → Reads s.heap v d as →
    Q (hashD w d) { s with toks := s.toks + drawsD d } → wpAny (model prog w) A (pyHash v) Q E s := by
  intro n
  induction n with
  | zero =>
    intro d A E s v as Q hk hu hr q
    cases hr with
    | none => exact (noneKind prog w).pyHash (k := none) (show (noneKind prog w).is none .none = true from rfl) (by simp only [hashD, drawsD] at q; exact q)
    | int i t => exact wpAny_pyHash_int (by simpa [hashD, drawsD] using q)
    | str x t => exact wpAny_pyHash_str (by simpa [hashD, drawsD] using q)
    | tuple => simp [keyable] at hk
    | bool => simp [keyable] at hk
    | list => simp [keyable] at hk
    | dict => simp [keyable] at hk
  | succ n ih =>
    intro d A E s v as Q hk hu hr q
    cases d with
    | none =>
      cases hr
      exact (noneKind prog w).pyHash (k := none) (show (noneKind prog w).is none .none = true from rfl) (by simp only [hashD, drawsD] at q; exact q)
    | int i =>
      cases hr
      exact wpAny_pyHash_int (by simpa [hashD, drawsD] using q)
    | str x =>
      cases hr
      exact wpAny_pyHash_str (by simpa [hashD, drawsD] using q)
    | tuple ds =>
      obtain ⟨a, rfl⟩ : ∃ a, v = .ref a := by cases hr; exact ⟨_, rfl⟩
      exact pyHash_tuple_of ih (by simpa [keyable] using hk) hu hr q
    | bool b => simp [keyable] at hk
    | list ds => simp [keyable] at hk
    | dict ds => simp [keyable] at hk
mutual
theorem keyable_nob : ∀ (n : Nat) (d : PyData), keyable n d = true → d.canLay0 = true ∧ d.depth ≤ n
  | _, .none, _ => by simp [PyData.canLay0, PyData.depth]
  | _, .int _, _ => by simp [PyData.canLay0, PyData.depth]
  | n, .str x, h => by
    refine ⟨?_, by simp [PyData.depth]⟩
    cases n <;> simpa [keyable] using h
  | 0, .tuple _, h => by simp [keyable] at h
  | n + 1, .tuple ds, h => by
    have k := keyableAll_nob n ds (by simpa [keyable] using h)
    simp only [PyData.canLay0, PyData.depth]
    exact ⟨k.1, by omega⟩
  | n, .bool _, h => by cases n <;> simp [keyable] at h
  | n, .list _, h => by cases n <;> simp [keyable] at h
  | n, .dict _, h => by cases n <;> simp [keyable] at h
theorem keyableAll_nob : ∀ (n : Nat) (ds : List PyData), keyableAll n ds = true → PyData.canLayAll0 ds = true ∧ PyData.depthAll ds ≤ n
  | _, [], _ => by simp [PyData.canLayAll0, PyData.depthAll]
  | n, d :: ds, h => by
    simp only [keyableAll, Bool.and_eq_true] at h
    have k1 := keyable_nob n d h.1
    have k2 := keyableAll_nob n ds h.2
    simp only [PyData.canLayAll0, PyData.depthAll, Bool.and_eq_true]
    exact ⟨⟨k1.1, k2.1⟩, by omega⟩
end

noncomputable instance decData : DecidableEq PyData := fun a b => Classical.propDecidable (a = b)
mutual
/-- no bools, no lists in what may be a key -/
theorem keyable_eqv : ∀ (n m : Nat) (d e : PyData), keyable n d = true → keyable m e = true → (PyData.eqv d e = true ↔ d = e)
  | n, m, .none, e, _, h => by cases e <;> simp [PyData.eqv]
  | n, m, .int i, e, _, h => by
    cases e with
    | bool b => cases m <;> simp [keyable] at h
    | _ => simp [PyData.eqv]
  | n, m, .str x, e, _, h => by cases e <;> simp [PyData.eqv]
  | 0, m, .tuple _, e, h, _ => by simp [keyable] at h
  | n + 1, 0, .tuple _, .tuple _, _, h => by simp [keyable] at h
  | n + 1, m + 1, .tuple xs, .tuple ys, h1, h2 => by
    simp only [PyData.eqv, PyData.tuple.injEq]
    exact keyableAll_eqv n m xs ys (by simpa [keyable] using h1) (by simpa [keyable] using h2)
  | n + 1, m, .tuple xs, .none, _, _ => by simp [PyData.eqv]
  | n + 1, m, .tuple xs, .bool _, _, _ => by simp [PyData.eqv]
  | n + 1, m, .tuple xs, .int _, _, _ => by simp [PyData.eqv]
  | n + 1, m, .tuple xs, .str _, _, _ => by simp [PyData.eqv]
  | n + 1, m, .tuple xs, .list _, _, _ => by simp [PyData.eqv]
  | n + 1, m, .tuple xs, .dict _, _, _ => by simp [PyData.eqv]
  | n, m, .bool _, _, h, _ => by cases n <;> simp [keyable] at h
  | n, m, .list _, _, h, _ => by cases n <;> simp [keyable] at h
  | n, m, .dict _, _, h, _ => by cases n <;> simp [keyable] at h
theorem keyableAll_eqv : ∀ (n m : Nat) (xs ys : List PyData), keyableAll n xs = true → keyableAll m ys = true → (PyData.eqvAll xs ys = true ↔ xs = ys)
  | _, _, [], [], _, _ => by simp [PyData.eqvAll]
  | _, _, [], _ :: _, _, _ => by simp [PyData.eqvAll]
  | _, _, _ :: _, [], _, _ => by simp [PyData.eqvAll]
  | n, m, x :: xs, y :: ys, h1, h2 => by
    simp only [keyableAll, Bool.and_eq_true] at h1 h2
    simp only [PyData.eqvAll, Bool.and_eq_true, List.cons.injEq]
    rw [keyable_eqv n m x y h1.1 h2.1, keyableAll_eqv n m xs ys h1.2 h2.2]
end
theorem quiet_data {prog : Program} {w : World} : ∀ (n : Nat) (d : PyData) (A : Around) (E : Value → Shared → Prop) (s : Shared) (v : Value) (as : List Addr) (Q : Bool → Shared → Prop), keyable n d = true → Reads s.heap v d as →
    Q true s → wpAny (model prog w) A (eqIsQuiet n v) Q E s := by
  intro n
  induction n with
  | zero =>
    intro d A E s v as Q hk hr q
    have flat : carriedByValue v = true := by
      cases hr with
      | tuple => simp [keyable] at hk
      | list => simp [keyable] at hk
      | dict => simp [keyable] at hk
      | _ => rfl
    rw [eqIsQuiet_byValue _ flat]
    exact wpAny_pure q
  | succ n ih =>
    intro d A E s v as Q hk hr q
    cases hr with
    | @tuple a o vs m ds _ ho hc hd hitems =>
      have ty : s.TypeIs (.ref a) "tuple" := ⟨o, ho, hc⟩
      have hk' : keyableAll n ds = true := by simpa [keyable] using hk
      unfold eqIsQuiet
      refine wpAny_bind (wpAny_specialOf ty F.slot_tuple_eq.lookup ?_)
      show wpAny _ _ (isInstance (.ref a) (.type "tuple") >>= _) _ _ s
      refine wpAny_bind (wpAny_isInstance ty isSubtype_tuple_tuple ?_)
      simp only [Bool.not_true, Bool.false_eq_true, if_false]
      refine wpAny_bind (wpAny_seqItems ho hd (wpAny_bind ?_))
      show wpAny _ _ (forIn vs _ _) _ _ s
      rw [← Array.forIn_toList]
      refine wpAny_forIn_list _ (fun left r s' => r.1 = none ∧ s' = s ∧ ∃ xs ys bs, ds = xs ++ ys ∧ ReadsAll s.heap left ys bs) _ ?_ ?_ _ _ ⟨rfl, rfl, [], ds, _, rfl, hitems⟩
      · rintro x left r s' ⟨hr, rfl, xs, ys, bs, rfl, hl⟩
        cases hl with
        | @cons _ _ d ys' as' bs' h1 h2 =>
          refine wpAny_bind (ih d _ _ s' x _ _ (keyableAll_mem hk' d (by simp)) h1 ?_)
          simp only [Bool.not_true, Bool.false_eq_true, if_false]
          exact wpAny_pure ⟨rfl, rfl, xs ++ [d], ys', bs', by simp, h2⟩
      · rintro ⟨r1, r2⟩ s' ⟨hr, rfl, _⟩
        simp only at hr
        subst hr
        exact wpAny_pure q
    | list => simp [keyable] at hk
    | dict => simp [keyable] at hk
    | none => rw [eqIsQuiet_byValue _ rfl]; exact wpAny_pure q
    | bool => simp [keyable] at hk
    | int => rw [eqIsQuiet_byValue _ rfl]; exact wpAny_pure q
    | str => rw [eqIsQuiet_byValue _ rfl]; exact wpAny_pure q
mutual
/-- what is read of a key stays, whatever else becomes of a dict -/
theorem reads_keep {h h' : Heap} (k : ∀ b o vs n, h.get? b = some o → o.data = .seq vs n → h'.get? b = some o) : ∀ (n : Nat) (d : PyData) (v : Value) (as : List Addr), keyable n d = true → Reads h v d as → Reads h' v d as
  | _, .none, _, _, _, hr => by cases hr; exact .none
  | _, .int i, _, _, _, hr => by cases hr; exact .int _ _
  | _, .str x, _, _, _, hr => by cases hr; exact .str _ _
  | 0, .tuple _, _, _, hk, _ => by simp [keyable] at hk
  | n + 1, .tuple ds, _, _, hk, hr => by
    cases hr with
    | tuple ho hc hd hi => exact .tuple (k _ _ _ _ ho hd) hc hd (readsAll_keep k n ds _ _ (by simpa [keyable] using hk) hi)
  | n, .bool _, _, _, hk, _ => by cases n <;> simp [keyable] at hk
  | n, .list _, _, _, hk, _ => by cases n <;> simp [keyable] at hk
  | n, .dict _, _, _, hk, _ => by cases n <;> simp [keyable] at hk
theorem readsAll_keep {h h' : Heap} (k : ∀ b o vs n, h.get? b = some o → o.data = .seq vs n → h'.get? b = some o) : ∀ (n : Nat) (ds : List PyData) (vs : List Value) (as : List Addr), keyableAll n ds = true → ReadsAll h vs ds as → ReadsAll h' vs ds as
  | _, [], _, _, _, hr => by cases hr; exact .nil
  | n, d :: ds, _, _, hk, hr => by
    simp only [keyableAll, Bool.and_eq_true] at hk
    cases hr with
    | cons h1 h2 => exact .cons (reads_keep k n d _ _ hk.1 h1) (readsAll_keep k n ds _ _ hk.2 h2)
end
mutual
theorem reads_inj {h : Heap} : ∀ (d e : PyData) (v : Value) (as bs : List Addr), Reads h v d as → Reads h v e bs → (∃ n, keyable n d = true) → d = e
  | .none, e, _, _, _, h1, h2, _ => by cases h1; cases h2; rfl
  | .int i, e, _, _, _, h1, h2, _ => by cases h1; cases h2; rfl
  | .str i, e, _, _, _, h1, h2, _ => by cases h1; cases h2; rfl
  | .bool i, e, _, _, _, h1, h2, _ => by cases h1; cases h2; rfl
  | .tuple ds, e, _, _, _, h1, h2, ⟨n, hk⟩ => by
    cases h1 with
    | tuple ho hc hd hi =>
      have hk' : ∃ n, keyableAll n ds = true := by
        cases n with
        | zero => simp [keyable] at hk
        | succ n => exact ⟨n, by simpa [keyable] using hk⟩
      cases h2 with
      | tuple ho' hc' hd' hi' =>
        rw [ho] at ho'; cases ho'
        rw [hd] at hd'; cases hd'
        rw [readsAll_inj ds _ _ _ _ hi hi' hk']
      | list ho' hc' hd' hi' => rw [ho] at ho'; cases ho'; rw [hc] at hc'; simp at hc'
      | dict ho' hc' hd' hi' => rw [ho] at ho'; cases ho'; rw [hc] at hc'; simp at hc'
  | .list ds, _, _, _, _, _, _, ⟨n, hk⟩ => by cases n <;> simp [keyable] at hk
  | .dict ds, _, _, _, _, _, _, ⟨n, hk⟩ => by cases n <;> simp [keyable] at hk
theorem readsAll_inj {h : Heap} : ∀ (ds es : List PyData) (vs : List Value) (as bs : List Addr), ReadsAll h vs ds as → ReadsAll h vs es bs → (∃ n, keyableAll n ds = true) → ds = es
  | [], _, _, _, _, h1, h2, _ => by cases h1; cases h2; rfl
  | d :: ds, _, _, _, _, h1, h2, ⟨n, hk⟩ => by
    simp only [keyableAll, Bool.and_eq_true] at hk
    cases h1 with
    | cons a1 b1 =>
      cases h2 with
      | cons a2 b2 => rw [reads_inj d _ _ _ _ a1 a2 ⟨n, hk.1⟩, readsAll_inj ds _ _ _ _ b1 b2 ⟨n, hk.2⟩]
end
/-- tuples as keys -/
def KeyAt (h : Heap) (d : PyData) (a : Addr) : Prop := keyable 8 d = true ∧ ∃ as, Reads h (.ref a) d as
noncomputable def dataKind (prog : Program) (w : World) : HeapKind prog w PyData where
  is := KeyAt
  hash := hashD w
  draws := drawsD
  room := fun A => A.units + 8 < cLine
  inj := fun ⟨h1, as, r1⟩ ⟨h2, bs, r2⟩ => reads_inj _ _ _ _ _ r1 r2 ⟨8, h1⟩
  keeps := fun {h h' k a d o es ep} ⟨h1, as, r1⟩ ho hd sb => ⟨h1, as, reads_keep (fun b ob vs n e c => by
    by_cases z : b = d
    · subst z
      rw [ho] at e
      cases e
      rw [hd] at c
      cases c
    · exact (sb.2 b z).trans e) 8 k _ _ h1 r1⟩
  pyHash := fun hu ⟨h1, as, r1⟩ q => pyHash_data 8 _ _ _ _ _ _ _ h1 hu r1 q
  eqBool := fun {A E s x y a b Q} hu ⟨h1, as, r1⟩ ⟨h2, bs, r2⟩ q => by
    have k1 := keyable_nob 8 _ h1
    have k2 := keyable_nob 8 _ h2
    have e := SeqAt.eqAt_reads x y A s _ _ _ _ r1 r2 k1.1 k2.1 (by have := k1.2; omega)
    refine e _ _ _ _ ?_
    have : PyData.eqv x y = decide (x = y) := by
      rw [Bool.eq_iff_iff, decide_eq_true_eq]
      exact keyable_eqv 8 8 x y h1 h2
    rw [this]
    exact q
  quiet := fun ⟨h1, as, r1⟩ q => quiet_data 8 _ _ _ _ _ _ _ h1 r1 q
end KD

set_option maxRecDepth 100000
set_option maxHeartbeats 2000000
/-! Dicts that number their keys: d.setdefault(key, len(d)). -/
namespace KD
open PySem PySem.Spec PyProof.Rows L2

/-- the dict at a numbers the keys ks (None, ints, texts) -/
def NumN (P : Program) (w : World) (a : Addr) (ks : List (Option Key)) : HO := .ext fun h => (a == sysModules) = false ∧ ks.length ≤ sizeLine ∧
  ∃ vs : List (Option Key × Value), h.DictOf (noneKind P w) a vs ∧ vs.map (·.1) = ks ∧ ∀ i k v, vs[i]? = some (k, v) → ∃ t : Tok, v = Value.int (i : Nat) t
/-- the dict at a numbers the keys ks (tuples of data, each at its address) -/
def NumT (P : Program) (w : World) (a : Addr) (ks : List (PyData × Addr)) : HO := .ext fun h => (a == sysModules) = false ∧ ks.length ≤ sizeLine ∧
  ∃ ys : List (PyData × Addr × Value), ys.map (fun y => (y.1, y.2.1)) = ks ∧ (∀ i d b v, ys[i]? = some (d, b, v) → ∃ t : Tok, v = Value.int (i : Nat) t) ∧ (ks.map (·.1)).Nodup ∧
    ∃ o es ep, h.get? a = some o ∧ o.ExactDict ∧ o.data = .dict es ep ∧ es.toList = ys.map (entryOfKey (dataKind P w))
def nV : Option Key → V
  | none => .non
  | some k => kV k
section
variable {P : Program} {w : World} {H : Hp} {h : Heap} {a : Addr}
theorem numN_ok {ks : List (Option Key)} {vs : List (Option Key × Value)} (h1 : (a == sysModules) = false) (h2 : ks.length ≤ sizeLine) (h3 : h.DictOf (noneKind P w) a vs) (h4 : vs.map (·.1) = ks) (h5 : ∀ i k v, vs[i]? = some (k, v) → ∃ t : Tok, v = Value.int (i : Nat) t) :
    ObjOk P w H h a (NumN P w a ks) := by
  have ⟨o, _, _, ho, _⟩ := h3
  refine ⟨⟨h1, h2, vs, h3, h4, h5⟩, ⟨o, ho⟩, fun h1 h2 p k => ?_⟩
  obtain ⟨a1, a2, vs, ⟨o, es, ep, e, r⟩, a4⟩ := p
  exact ⟨a1, a2, vs, ⟨o, es, ep, k o e, r⟩, a4⟩
theorem numT_ok {ks : List (PyData × Addr)} {ys : List (PyData × Addr × Value)} (h1 : (a == sysModules) = false) (h2 : ks.length ≤ sizeLine) (h4 : ys.map (fun y => (y.1, y.2.1)) = ks) (h5 : ∀ i d b v, ys[i]? = some (d, b, v) → ∃ t : Tok, v = Value.int (i : Nat) t)
    (h6 : (ks.map (·.1)).Nodup) (h3 : ∃ o es ep, h.get? a = some o ∧ o.ExactDict ∧ o.data = .dict es ep ∧ es.toList = ys.map (entryOfKey (dataKind P w))) : ObjOk P w H h a (NumT P w a ks) := by
  have ⟨o, _, _, ho, _⟩ := h3
  refine ⟨⟨h1, h2, ys, h4, h5, h6, h3⟩, ⟨o, ho⟩, fun h1 h2 p k => ?_⟩
  obtain ⟨a1, a2, ys, a4, a5, a6, o, es, ep, e, r⟩ := p
  exact ⟨a1, a2, ys, a4, a5, a6, o, es, ep, k o e, r⟩
end
def tDNewN (P : Program) (w : World) : TE := fun _ H Q => ∀ p, H p = none → Q (.ref p) (upd H p (NumN P w p []))
def tDNewH (P : Program) (w : World) : TE := fun _ H Q => ∀ p, H p = none → Q (.ref p) (upd H p (NumT P w p []))
section
variable {X : Cx} {pos : Pos}

theorem pe_dnewN : PE X (.Dict [] [] pos) (tDNewN X.prog X.w) := ⟨fun pins s σ H Q I h =>
  wpAny_Dict_empty ⟨.ref s.heap.objs.size, _, I.laid (a := s.heap.objs.size) (o := NumN X.prog X.w s.heap.objs.size []) (t' := s.toks) (fun _ _ q => Heap.get?_push_of_some _ q) (Nat.le_refl _)
    (numN_ok (vs := []) (beq_eq_false_iff_ne.mpr (Ne.symm (Nat.ne_of_lt I.big))) (Nat.zero_le _) (Heap.DictOf.new s.heap) rfl fun i k v e => by simp at e), rfl, h _ (I.hok.fresh (Nat.le_refl _))⟩⟩
theorem pe_dnewH : PE X (.Dict [] [] pos) (tDNewH X.prog X.w) := ⟨fun pins s σ H Q I h =>
  wpAny_Dict_empty ⟨.ref s.heap.objs.size, _, I.laid (a := s.heap.objs.size) (o := NumT X.prog X.w s.heap.objs.size []) (t' := s.toks) (fun _ _ q => Heap.get?_push_of_some _ q) (Nat.le_refl _)
    (numT_ok (ys := []) (beq_eq_false_iff_ne.mpr (Ne.symm (Nat.ne_of_lt I.big))) (Nat.zero_le _) rfl (fun i d b v e => by simp at e) List.nodup_nil ⟨_, #[], 0, Heap.get?_push_size _ rfl, ⟨rfl, rfl, rfl⟩, rfl, rfl⟩), rfl, h _ (I.hok.fresh (Nat.le_refl _))⟩⟩
def rLenN (P : Program) (w : World) : List V → Hp → VK → Prop := fun xs H Q => ∃ a ks, xs = [V.ref a] ∧ H a = some (NumN P w a ks) ∧ Q (.int (ks.length : Nat)) H
def rLenH (K : PySem.W.Frag) (P : Program) (w : World) : List V → Hp → VK → Prop := fun xs H Q => ∃ a ks, xs = [V.ref a] ∧ H a = some (NumT P w a ks) ∧ (∀ x ∈ ks, Dq K H (.ref x.2) x.1 ∧ keyable 8 x.1 = true) ∧ Q (.int (ks.length : Nat)) H
theorem kLenN : CallR X (.builtin "len") (rLenN X.prog X.w) := by
  intro pins s σ H xs us Q I r h
  obtain ⟨a, ks, rfl, ha, q⟩ := h
  obtain ⟨u, rfl, ru⟩ := vals1 r
  cases ru
  obtain ⟨⟨h1, h2, vs, h3, h4, h5⟩, _⟩ := (show ObjOk X.prog X.w H s.heap a (NumN X.prog X.w a ks) from I.hok a _ ha)
  have hl : vs.length = ks.length := by rw [← h4, List.length_map]
  refine call_len_dict h1 h3 (by rw [hl]; rw [sizeLine_eq] at h2; omega) ?_
  rw [hl]
  exact ⟨.int (ks.length : Nat), H, I.tok _, ⟨_, rfl⟩, q⟩
theorem keyable_flat : ∀ (n : Nat) (d : PyData), keyable n d = true → flatD d = true := by
  intro n
  induction n with
  | zero => intro d h; cases d <;> first | rfl | simp [keyable] at h
  | succ n ih =>
    intro d h
    cases d with
    | tuple ds =>
      simp only [flatD]
      have hk : keyableAll n ds = true := by simpa [keyable] using h
      clear h
      induction ds with
      | nil => rfl
      | cons d ds k =>
        simp only [keyableAll, Bool.and_eq_true] at hk
        simp only [flatAll, Bool.and_eq_true]
        exact ⟨ih d hk.1, k hk.2⟩
    | none => rfl
    | int => rfl
    | str => rfl
    | bool => simp [keyable] at h
    | list => simp [keyable] at h
    | dict => simp [keyable] at h
theorem keyAt_of {pins : List (Addr × Obj)} {σ : L2.St} {H : Hp} {s : Shared} (I : Inv X pins σ H s) {b : Addr} {d : PyData} (h : Dq X.K H (.ref b) d) (k : keyable 8 d = true) : KeyAt s.heap d b := by
  obtain ⟨as, r⟩ := Dp.reads I d _ (.ref b) (dq_dp d _ (keyable_flat 8 d k) h) rfl
  exact ⟨k, as, r⟩
theorem dictH_of {pins : List (Addr × Obj)} {σ : L2.St} {H : Hp} {s : Shared} {a : Addr} {ks : List (PyData × Addr)} (I : Inv X pins σ H s) (ha : H a = some (NumT X.prog X.w a ks)) (hk : ∀ x ∈ ks, Dq X.K H (.ref x.2) x.1 ∧ keyable 8 x.1 = true) :
    (a == sysModules) = false ∧ ks.length ≤ sizeLine ∧ (ks.map (·.1)).Nodup ∧ ∃ ys : List (PyData × Addr × Value), ys.map (fun y => (y.1, y.2.1)) = ks ∧ (∀ i d b v, ys[i]? = some (d, b, v) → ∃ t : Tok, v = Value.int (i : Nat) t) ∧ s.heap.DictOfH (dataKind X.prog X.w) a ys := by
  obtain ⟨⟨h1, h2, ys, h4, h5, h6, o, es, ep, e1, e2, e3, e4⟩, _⟩ := (show ObjOk X.prog X.w H s.heap a (NumT X.prog X.w a ks) from I.hok a _ ha)
  refine ⟨h1, h2, h6, ys, h4, h5, o, es, ep, e1, e2, e3, e4, fun y hy => ?_, ?_⟩
  · have : (y.1, y.2.1) ∈ ks := by rw [← h4]; exact List.mem_map.mpr ⟨y, hy, rfl⟩
    obtain ⟨k1, k2⟩ := hk _ this
    exact keyAt_of I k1 k2
  · rw [← h4, List.map_map] at h6
    exact h6
theorem kLenH {K : PySem.W.Frag} (hK : X.K = K := by rfl) : CallR X (.builtin "len") (rLenH K X.prog X.w) := by
  subst hK
  intro pins s σ H xs us Q I r h
  obtain ⟨a, ks, rfl, ha, hk, q⟩ := h
  obtain ⟨u, rfl, ru⟩ := vals1 r
  cases ru
  obtain ⟨h1, h2, h6, ys, h4, h5, dd⟩ := dictH_of I ha hk
  have hl : ys.length = ks.length := by rw [← h4, List.length_map]
  refine call_len_dictH h1 dd (by rw [hl]; rw [sizeLine_eq] at h2; omega) ?_
  rw [hl]
  exact ⟨.int (ks.length : Nat), H, I.tok _, ⟨_, rfl⟩, q⟩

def idxG {κ : Type} [DecidableEq κ] (l : List κ) (k : κ) : Nat := l.idxOf k
/-- d.setdefault(k, n), n the number of keys so far -/
def tSetN (P : Program) (w : World) (td ty tx : TE) : TE := fun σ H Q => td σ H fun x H1 => ∃ a ks0, x = .ref a ∧ H1 a = some (NumN P w a ks0) ∧ ty σ H1 fun y H2 => tx σ H2 fun z H3 =>
  ∃ (ks : List (Option Key)) (k : Option Key), H3 a = some (NumN P w a ks) ∧ y = nV k ∧ z = .int (ks.length : Nat) ∧ ks.length < sizeLine ∧ (k ∈ ks → Q (.int (idxG ks k : Nat)) H3) ∧ (k ∉ ks → Q z (upd H3 a (NumN P w a (ks ++ [k]))))
def tSetH (K : PySem.W.Frag) (P : Program) (w : World) (td ty tx : TE) : TE := fun σ H Q => td σ H fun x H1 => ∃ a ks0, x = .ref a ∧ H1 a = some (NumT P w a ks0) ∧ ty σ H1 fun y H2 => tx σ H2 fun z H3 =>
  ∃ (ks : List (PyData × Addr)) (d : PyData) (b : Addr), H3 a = some (NumT P w a ks) ∧ (∀ x ∈ ks, Dq K H3 (.ref x.2) x.1 ∧ keyable 8 x.1 = true) ∧ y = .ref b ∧ Dq K H3 (.ref b) d ∧ keyable 8 d = true ∧ z = .int (ks.length : Nat) ∧ ks.length < sizeLine ∧
    (d ∈ ks.map (·.1) → Q (.int (idxG (ks.map (·.1)) d : Nat)) H3) ∧ (d ∉ ks.map (·.1) → Q z (upd H3 a (NumT P w a (ks ++ [(d, b)]))))
theorem nV_is {k : Option Key} {u : Value} (r : RelV (nV k) u) {P : Program} {w : World} : (noneKind P w).is k u = true := by
  cases k with
  | none => cases (show u = Value.none from r); rfl
  | some k => exact kV_is (P := P) (w := w) r
theorem tracked_ext {a : Addr} {φ : Heap → Prop} {H : Hp} (ha : H a = some (.ext φ)) : Mut (H a) := by rw [ha]; trivial
theorem idx_of_get {α : Type} [DecidableEq α] {l : List α} (nd : l.Nodup) {i : Nat} {x : α} (h : l[i]? = some x) : idxG l x = i := by
  unfold idxG
  obtain ⟨hi, e⟩ := List.getElem?_eq_some_iff.mp h
  rw [← e]
  exact nd.idxOf_getElem i hi
variable {o e f : Expr} {td ty tx : TE} {apos cpos : Pos}
theorem pe_setN (ho : PE X o td) (he : PE X e ty) (hf : PE X f tx) (m : M2 X o "setdefault" apos e f cpos) : PE X (.Call (.Attribute o "setdefault" apos) [e, f] [] cpos) (tSetN X.prog X.w td ty tx) := by
  refine ⟨fun pins s σ H Q I h => ?_⟩
  refine wpAny_Call_method m.base m.few m.line PySem.F.plainAttrs_dict PySem.F.slot_dict_setdefault PySem.F.type_dict_setdefault (thn (ho.run pins s σ H _ I h) fun u s1 k => ?_)
  obtain ⟨x, H1, I1, rx, a, ks0, rfl, ha0, q1⟩ := k
  cases rx
  obtain ⟨⟨_, _, vs0, d0, _⟩, _⟩ := (show ObjOk X.prog X.w H1 s1.heap a (NumN X.prog X.w a ks0) from I1.hok a _ ha0)
  refine ⟨d0.typeIs, fun b e => ?_, ?_⟩
  · cases e
    obtain ⟨ob, _, _, h1, h2, _⟩ := d0
    exact ⟨ob, h1, h2.2.1⟩
  rw [m.trees]
  refine Calls.callWith_builtin rfl (Calls.evalArgs_plain (Calls.spliced_cons (thn (he.run pins s1 σ H1 _ I1 q1) fun iv s2 k2 => ?_)))
  obtain ⟨y, H2, I2, ry, q2⟩ := k2
  refine Calls.spliced_cons (thn (hf.run pins s2 σ H2 _ I2 q2) fun fv s3 k3 => Calls.spliced_nil ?_)
  obtain ⟨z, H3, I3, rz, ks, k, ha, rfl, rfl, hl, qold, qnew⟩ := k3
  obtain ⟨⟨h1, h2, vs, dd, h4, h5⟩, _⟩ := (show ObjOk X.prog X.w H3 s3.heap a (NumN X.prog X.w a ks) from I3.hok a _ ha)
  have nd : ks.Nodup := by
    obtain ⟨_, _, _, _, _, _, _, _, nd⟩ := dd
    rw [← h4]; exact nd
  have hvl : vs.length = ks.length := by rw [← h4, List.length_map]
  refine call_meetsIn PySem.F.slot_dict_setdefault dd.typeIs PySem.F.entry_dict_setdefault (PySem.F.args_dict_setdefault_3 _ _ _) (kt_meets_setdefault (noneKind X.prog X.w) a (nV_is ry) h1 fv) ⟨vs, dd, by omega, fun v hv => ?_, fun hn h' dd' sb => ?_⟩
  · unfold valueAt at hv
    cases hf : vs.find? (fun kv => decide (kv.1 = k)) with
    | none => rw [hf] at hv; cases hv
    | some kv =>
      rw [hf] at hv
      have e1 : kv.1 = k := by simpa using List.find?_some hf
      have hm := List.mem_of_find?_eq_some hf
      obtain ⟨i, hi⟩ := List.mem_iff_getElem?.mp hm
      obtain ⟨k', v'⟩ := kv
      simp only at e1
      subst e1
      cases hv
      obtain ⟨t, e⟩ := h5 i k' v' hi
      have hki : ks[i]? = some k' := by rw [← h4, List.getElem?_map, hi]; rfl
      have := idx_of_get nd hki
      refine ⟨.int (i : Nat), H3, I3.tok _, ⟨t, e⟩, ?_⟩
      rw [← this]
      exact qold (List.mem_of_getElem? hki)
  · have nin : k ∉ ks := fun hm => by
      rw [← h4] at hm
      obtain ⟨kv, hkv, e⟩ := List.mem_map.mp hm
      unfold valueAt at hn
      rw [Option.map_eq_none_iff, List.find?_eq_none] at hn
      exact hn kv hkv (by simpa using e)
    have st : stored vs k fv = vs ++ [(k, fv)] := by
      unfold stored
      rw [if_neg]
      intro z
      obtain ⟨kv, hkv, e⟩ := List.any_eq_true.mp z
      exact nin (by rw [← h4]; exact List.mem_map.mpr ⟨kv, hkv, by simpa using e⟩)
    rw [st] at dd'
    obtain ⟨tf, rfl⟩ := rz
    have he : ∃ q, h'.get? a = some q := let ⟨q, _, _, hq, _⟩ := dd'; ⟨q, hq⟩
    refine ⟨.int (ks.length : Nat), _, d_write (t' := s3.toks + 1) I3 (tracked_ext ha) sb he (numN_ok (ks := ks ++ [k]) h1 (by simp; omega) dd' (by simp [h4]) fun i k2 v2 e2 => ?_), ⟨tf, rfl⟩, qnew nin⟩
    by_cases c : i < vs.length
    · rw [List.getElem?_append_left c] at e2
      exact h5 i k2 v2 e2
    · rw [List.getElem?_append_right (by omega)] at e2
      by_cases c2 : i - vs.length = 0
      · rw [c2] at e2
        simp at e2
        have : i = ks.length := by omega
        rw [this]
        exact ⟨tf, e2.2.symm⟩
      · rw [List.getElem?_eq_none (by simp; omega)] at e2
        cases e2
theorem pe_setH {K : PySem.W.Frag} (hu : X.A.units + 16 < cLine) (ho : PE X o td) (he : PE X e ty) (hf : PE X f tx) (m : M2 X o "setdefault" apos e f cpos) (hK : X.K = K := by rfl) : PE X (.Call (.Attribute o "setdefault" apos) [e, f] [] cpos) (tSetH K X.prog X.w td ty tx) := by
  subst hK
  refine ⟨fun pins s σ H Q I h => ?_⟩
  refine wpAny_Call_method m.base m.few m.line PySem.F.plainAttrs_dict PySem.F.slot_dict_setdefault PySem.F.type_dict_setdefault (thn (ho.run pins s σ H _ I h) fun u s1 k => ?_)
  obtain ⟨x, H1, I1, rx, a, ks0, rfl, ha0, q1⟩ := k
  cases rx
  obtain ⟨⟨_, _, _, _, _, _, o0, es0, ep0, e1, e2, e3, _⟩, _⟩ := (show ObjOk X.prog X.w H1 s1.heap a (NumT X.prog X.w a ks0) from I1.hok a _ ha0)
  refine ⟨⟨o0, e1, e2.1⟩, fun b e => ?_, ?_⟩
  · cases e
    exact ⟨o0, e1, e2.2.1⟩
  rw [m.trees]
  refine Calls.callWith_builtin rfl (Calls.evalArgs_plain (Calls.spliced_cons (thn (he.run pins s1 σ H1 _ I1 q1) fun iv s2 k2 => ?_)))
  obtain ⟨y, H2, I2, ry, q2⟩ := k2
  refine Calls.spliced_cons (thn (hf.run pins s2 σ H2 _ I2 q2) fun fv s3 k3 => Calls.spliced_nil ?_)
  obtain ⟨z, H3, I3, rz, ks, d, b, ha, hks, rfl, hd, kd, rfl, hl, qold, qnew⟩ := k3
  cases ry
  obtain ⟨h1, h2, nd, ys, h4, h5, dd⟩ := dictH_of I3 ha hks
  have hyl : ys.length = ks.length := by rw [← h4, List.length_map]
  have keys : ks.map (·.1) = ys.map (·.1) := by rw [← h4, List.map_map]; rfl
  refine call_setdefault_heap (knd := dataKind X.prog X.w) (k := d) (show X.A.in1.units + 8 < cLine by show X.A.units + 1 + 8 < cLine; omega) (keyAt_of I3 hd kd) h1 dd (fun p hp => ?_) (fun hn h' dd' sb => ?_) (by omega)
  · unfold atKey at hp
    cases hf : ys.find? (fun x => decide (x.1 = d)) with
    | none => rw [hf] at hp; cases hp
    | some y =>
      rw [hf] at hp
      have e1 : y.1 = d := by simpa using List.find?_some hf
      have hm := List.mem_of_find?_eq_some hf
      obtain ⟨i, hi⟩ := List.mem_iff_getElem?.mp hm
      obtain ⟨d', b', v'⟩ := y
      simp only at e1
      subst e1
      cases hp
      obtain ⟨t, e⟩ := h5 i d' b' v' hi
      have hki : (ks.map (·.1))[i]? = some d' := by rw [keys, List.getElem?_map, hi]; rfl
      have := idx_of_get nd hki
      refine ⟨.int (i : Nat), H3, I3.tok _, ⟨t, e⟩, ?_⟩
      rw [← this]
      exact qold (List.mem_of_getElem? hki)
  · have nin : d ∉ ks.map (·.1) := fun hm => by
      rw [keys] at hm
      obtain ⟨y, hy, e⟩ := List.mem_map.mp hm
      unfold atKey at hn
      rw [Option.map_eq_none_iff, List.find?_eq_none] at hn
      exact hn y hy (by simpa using e)
    rw [storedH_new hn] at dd'
    obtain ⟨tf, rfl⟩ := rz
    obtain ⟨oo, es, ep, g1, g2, g3, g4, g5, g6⟩ := dd'
    refine ⟨.int (ks.length : Nat), _, d_write (t' := s3.toks + drawsD d) I3 (tracked_ext ha) sb ⟨oo, g1⟩ (numT_ok (ks := ks ++ [(d, b)]) (ys := ys ++ [(d, b, _)]) h1 (by simp; omega) (by simp [h4]) (fun i d2 b2 v2 e2 => ?_) ?_ ⟨oo, es, ep, g1, g2, g3, g4⟩), ⟨tf, rfl⟩, qnew nin⟩
    · by_cases c : i < ys.length
      · rw [List.getElem?_append_left c] at e2
        exact h5 i d2 b2 v2 e2
      · rw [List.getElem?_append_right (by omega)] at e2
        by_cases c2 : i - ys.length = 0
        · rw [c2] at e2
          simp at e2
          have : i = ks.length := by omega
          rw [this]
          exact ⟨tf, e2.2.2.symm⟩
        · rw [List.getElem?_eq_none (by simp; omega)] at e2
          cases e2
    · rw [List.map_append, keys]
      rw [List.map_append] at g6
      exact g6
end
end KD

set_option maxRecDepth 100000
set_option maxHeartbeats 2000000
/-! The text: where each def stands, and what the top has written. -/
namespace K96
open PySem PySem.Spec PyProof.Rows L2 KD
structure At (K : PySem.W.Frag) (mg : Str → Option Value) (x : Str) (st : Stmt) (ps : List Str) where
  f : Addr
  d : FuncData
  F : Fun K x x st f d
  g : mg x = some (.ref f)
  b : Binds K d ps []
structure ExAt (K : PySem.W.Frag) (mg : Str → Option Value) (x : Str) where
  C : Addr
  g : mg x = some (.ref C)
  ex : PySem.W.excIn K C [.type "ValueError", .type "Exception", .type "BaseException", .type "object"] "ValueError.__new__" = true
  k : PySem.W.keepIn K (.ref C) = true
  sB : PySem.W.subIn K (.ref C) (.type "BaseException") = some true
  ty : PySem.W.typeIn K (.ref C) = some (.type "type")
  cl : PySem.W.isClsIn K C = true
def topS (i : Nat) : Stmt := PySem.Challenge.pw_costslimited_k96_least_ladders.main.body.getD i (.Pass ⟨0, 0, 0, 0⟩)
abbrev s_is_int : Stmt := topS 10
abbrev s_within : Stmt := topS 11
abbrev s_is_row : Stmt := topS 12
abbrev s_is_low_name : Stmt := topS 13
abbrev s_are_letters : Stmt := topS 17
abbrev s_is_word_over : Stmt := topS 18
abbrev s_need_word : Stmt := topS 19
abbrev s_need_alike : Stmt := topS 21
abbrev s_numbered : Stmt := topS 23
abbrev s_is_rung : Stmt := topS 27
abbrev s_is_ladder : Stmt := topS 28
abbrev s_need_ladder : Stmt := topS 29
abbrev s_cost_on : Stmt := topS 30
abbrev s_ladder_cost : Stmt := topS 31
abbrev s_least_rests : Stmt := topS 32
abbrev s_early_entry : Stmt := topS 33
abbrev s_early_ladder : Stmt := topS 34
abbrev s_classes_of_rungs : Stmt := topS 35
abbrev s_least_of_ladder : Stmt := topS 36
abbrev s_least_ladder : Stmt := topS 37
abbrev s_is_least_ladder : Stmt := topS 38
abbrev s_same_ladders : Stmt := topS 39
abbrev s_l_bag : Stmt := topS 41
abbrev s_l_pick : Stmt := topS 42
abbrev s_l_same : Stmt := topS 43
abbrev s_l_letters : Stmt := topS 44
abbrev s_l_word : Stmt := topS 45
abbrev s_l_words : Stmt := topS 46
abbrev s_l_ladder : Stmt := topS 47
abbrev s_l_cost : Stmt := topS 48
abbrev s_l_turned : Stmt := topS 49
abbrev s_l_moved : Stmt := topS 50
abbrev s_l_early : Stmt := topS 51
abbrev s_l_told : Stmt := topS 52
abbrev s_l_doors : Stmt := topS 53
abbrev s_law : Stmt := topS 54
theorem sc_is_int : FnScope ["thing"] ["thing"] (defScope s_is_int) := ⟨rfl, rfl, rfl, by decide +kernel, rfl, by decide +kernel, by decide +kernel⟩
theorem sc_within : FnScope ["thing", "low", "high"] ["thing", "low", "high"] (defScope s_within) := ⟨rfl, rfl, rfl, by decide +kernel, rfl, by decide +kernel, by decide +kernel⟩
theorem sc_is_row : FnScope ["thing", "low", "high"] ["thing", "low", "high"] (defScope s_is_row) := ⟨rfl, rfl, rfl, by decide +kernel, rfl, by decide +kernel, by decide +kernel⟩
theorem sc_is_low_name : FnScope ["thing", "sign"] ["thing"] (defScope s_is_low_name) := ⟨rfl, rfl, rfl, by decide +kernel, rfl, by decide +kernel, by decide +kernel⟩
theorem sc_are_letters : FnScope ["thing", "name"] ["thing"] (defScope s_are_letters) := ⟨rfl, rfl, rfl, by decide +kernel, rfl, by decide +kernel, by decide +kernel⟩
theorem sc_is_word_over : FnScope ["letters", "thing", "letter"] ["letters", "thing"] (defScope s_is_word_over) := ⟨rfl, rfl, rfl, by decide +kernel, rfl, by decide +kernel, by decide +kernel⟩
theorem sc_need_word : FnScope ["letters", "word"] ["letters", "word"] (defScope s_need_word) := ⟨rfl, rfl, rfl, by decide +kernel, rfl, by decide +kernel, by decide +kernel⟩
theorem sc_need_alike : FnScope ["letters", "others"] ["letters", "others"] (defScope s_need_alike) := ⟨rfl, rfl, rfl, by decide +kernel, rfl, by decide +kernel, by decide +kernel⟩
theorem sc_numbered : FnScope ["keys", "numbers", "key"] ["keys"] (defScope s_numbered) := ⟨rfl, rfl, rfl, by decide +kernel, rfl, by decide +kernel, by decide +kernel⟩
theorem sc_is_rung : FnScope ["thing", "many_letters", "many", "entry", "told", "price", "state"] ["thing", "many_letters", "many"] (defScope s_is_rung) := ⟨rfl, rfl, rfl, by decide +kernel, rfl, by decide +kernel, by decide +kernel⟩
theorem sc_is_ladder : FnScope ["thing", "letters", "first", "rows", "ends", "price", "row"] ["thing"] (defScope s_is_ladder) := ⟨rfl, rfl, rfl, by decide +kernel, rfl, by decide +kernel, by decide +kernel⟩
theorem sc_need_ladder : FnScope ["ladder"] ["ladder"] (defScope s_need_ladder) := ⟨rfl, rfl, rfl, by decide +kernel, rfl, by decide +kernel, by decide +kernel⟩
theorem sc_cost_on : FnScope ["ladder", "word", "letters", "total", "rows", "ends", "state", "letter", "price"] ["ladder", "word"] (defScope s_cost_on) := ⟨rfl, rfl, rfl, by decide +kernel, rfl, by decide +kernel, by decide +kernel⟩
theorem sc_ladder_cost : FnScope ["ladder", "word"] ["ladder", "word"] (defScope s_ladder_cost) := ⟨rfl, rfl, rfl, by decide +kernel, rfl, by decide +kernel, by decide +kernel⟩
theorem sc_least_rests : FnScope ["rows", "ends", "found", "is_new", "state", "row", "some", "entry"] ["rows", "ends"] (defScope s_least_rests) := ⟨rfl, rfl, rfl, by decide +kernel, rfl, by decide +kernel, by decide +kernel⟩
theorem sc_early_entry : FnScope ["entry", "own", "rests"] ["entry", "own", "rests"] (defScope s_early_entry) := ⟨rfl, rfl, rfl, by decide +kernel, rfl, by decide +kernel, by decide +kernel⟩
theorem sc_early_ladder : FnScope ["ladder", "letters", "first", "rows", "ends", "rests", "told", "last", "state", "entry"] ["ladder"] (defScope s_early_ladder) := ⟨rfl, rfl, rfl, by decide +kernel, rfl, by decide +kernel, by decide +kernel⟩
theorem sc_classes_of_rungs : FnScope ["told", "last", "states", "marks", "keys", "state", "row", "new", "entry"] ["told", "last"] (defScope s_classes_of_rungs) := ⟨rfl, rfl, rfl, by decide +kernel, rfl, by decide +kernel, by decide +kernel⟩
theorem sc_least_of_ladder : FnScope ["ladder", "letters", "early", "first", "told", "last", "marks", "order", "numbers", "rows", "row", "entry", "state"] ["ladder"] (defScope s_least_of_ladder) := ⟨rfl, rfl, rfl, by decide +kernel, rfl, by decide +kernel, by decide +kernel⟩
theorem sc_least_ladder : FnScope ["ladder"] ["ladder"] (defScope s_least_ladder) := ⟨rfl, rfl, rfl, by decide +kernel, rfl, by decide +kernel, by decide +kernel⟩
theorem sc_is_least_ladder : FnScope ["ladder"] ["ladder"] (defScope s_is_least_ladder) := ⟨rfl, rfl, rfl, by decide +kernel, rfl, by decide +kernel, by decide +kernel⟩
theorem sc_same_ladders : FnScope ["ladder", "other"] ["ladder", "other"] (defScope s_same_ladders) := ⟨rfl, rfl, rfl, by decide +kernel, rfl, by decide +kernel, by decide +kernel⟩
theorem sc_l_bag : FnScope ["script"] ["script"] (defScope s_l_bag) := ⟨rfl, rfl, rfl, by decide +kernel, rfl, by decide +kernel, by decide +kernel⟩
theorem sc_l_pick : FnScope ["bag", "many", "at", "cell", "got"] ["bag", "many"] (defScope s_l_pick) := ⟨rfl, rfl, rfl, by decide +kernel, rfl, by decide +kernel, by decide +kernel⟩
theorem sc_l_same : FnScope ["found", "due", "k"] ["found", "due"] (defScope s_l_same) := ⟨rfl, rfl, rfl, by decide +kernel, rfl, by decide +kernel, by decide +kernel⟩
theorem sc_l_letters : FnScope ["bag", "most", "names"] ["bag", "most"] (defScope s_l_letters) := ⟨rfl, rfl, rfl, by decide +kernel, rfl, by decide +kernel, by decide +kernel⟩
theorem sc_l_word : FnScope ["bag", "letters", "most", "k"] ["bag", "letters", "most"] (defScope s_l_word) := ⟨rfl, rfl, rfl, by decide +kernel, rfl, by decide +kernel, by decide +kernel⟩
theorem sc_l_words : FnScope ["letters", "most", "found", "now", "k", "later", "word", "letter"] ["letters", "most"] (defScope s_l_words) := ⟨rfl, rfl, rfl, by decide +kernel, rfl, by decide +kernel, by decide +kernel⟩
theorem sc_l_ladder : FnScope ["bag", "letters", "states", "rows", "ends", "p", "row", "letter"] ["bag", "letters", "states"] (defScope s_l_ladder) := ⟨rfl, rfl, rfl, by decide +kernel, rfl, by decide +kernel, by decide +kernel⟩
theorem sc_l_cost : FnScope ["ladder", "word", "letters", "number", "rows", "ends", "state", "letter"] ["ladder", "word"] (defScope s_l_cost) := ⟨rfl, rfl, rfl, by decide +kernel, rfl, by decide +kernel, by decide +kernel⟩
theorem sc_l_turned : FnScope ["ladder", "letters", "first", "rows", "ends", "many", "names", "found", "last", "p", "entry", "letter"] ["ladder"] (defScope s_l_turned) := ⟨rfl, rfl, rfl, by decide +kernel, rfl, by decide +kernel, by decide +kernel⟩
theorem sc_l_moved : FnScope ["ladder", "state", "number", "letters", "first", "rows", "ends", "own", "found", "p", "row", "entry", "price", "last", "end"] ["ladder", "state", "number"] (defScope s_l_moved) := ⟨rfl, rfl, rfl, by decide +kernel, rfl, by decide +kernel, by decide +kernel⟩
theorem sc_l_early : FnScope ["ladder", "letters", "first", "rows", "ends", "least", "many", "turn", "p", "some", "come", "waiting", "new", "end", "entry", "number"] ["ladder"] (defScope s_l_early) := ⟨rfl, rfl, rfl, by decide +kernel, rfl, by decide +kernel, by decide +kernel⟩
theorem sc_l_told : FnScope ["which", "ladder", "other", "found"] ["which", "ladder", "other"] (defScope s_l_told) := ⟨rfl, rfl, rfl, by decide +kernel, rfl, by decide +kernel, by decide +kernel⟩
theorem sc_l_doors : FnScope ["bag", "letters", "ladder", "rows", "ends", "many", "odd", "bad", "strange", "words", "which"] ["bag", "letters", "ladder"] (defScope s_l_doors) := ⟨rfl, rfl, rfl, by decide +kernel, rfl, by decide +kernel, by decide +kernel⟩
theorem sc_law : FnScope ["script", "bag", "turn", "letters", "ladder", "words", "least", "others", "other", "free", "unlike", "word"] ["script"] (defScope s_law) := ⟨rfl, rfl, rfl, by decide +kernel, rfl, by decide +kernel, by decide +kernel⟩
structure Txt (K : PySem.W.Frag) (mg : Str → Option Value) where
  A_is_int : At K mg "is_int" s_is_int ["thing"]
  A_within : At K mg "within" s_within ["thing", "low", "high"]
  A_is_row : At K mg "is_row" s_is_row ["thing", "low", "high"]
  A_is_low_name : At K mg "is_low_name" s_is_low_name ["thing"]
  A_are_letters : At K mg "are_letters" s_are_letters ["thing"]
  A_is_word_over : At K mg "is_word_over" s_is_word_over ["letters", "thing"]
  A_need_word : At K mg "need_word" s_need_word ["letters", "word"]
  A_need_alike : At K mg "need_alike" s_need_alike ["letters", "others"]
  A_numbered : At K mg "numbered" s_numbered ["keys"]
  A_is_rung : At K mg "is_rung" s_is_rung ["thing", "many_letters", "many"]
  A_is_ladder : At K mg "is_ladder" s_is_ladder ["thing"]
  A_need_ladder : At K mg "need_ladder" s_need_ladder ["ladder"]
  A_cost_on : At K mg "cost_on" s_cost_on ["ladder", "word"]
  A_ladder_cost : At K mg "ladder_cost" s_ladder_cost ["ladder", "word"]
  A_least_rests : At K mg "least_rests" s_least_rests ["rows", "ends"]
  A_early_entry : At K mg "early_entry" s_early_entry ["entry", "own", "rests"]
  A_early_ladder : At K mg "early_ladder" s_early_ladder ["ladder"]
  A_classes_of_rungs : At K mg "classes_of_rungs" s_classes_of_rungs ["told", "last"]
  A_least_of_ladder : At K mg "least_of_ladder" s_least_of_ladder ["ladder"]
  A_least_ladder : At K mg "least_ladder" s_least_ladder ["ladder"]
  A_is_least_ladder : At K mg "is_least_ladder" s_is_least_ladder ["ladder"]
  A_same_ladders : At K mg "same_ladders" s_same_ladders ["ladder", "other"]
  A_l_bag : At K mg "_law_bag" s_l_bag ["script"]
  A_l_pick : At K mg "_law_pick" s_l_pick ["bag", "many"]
  A_l_same : At K mg "_law_same" s_l_same ["found", "due"]
  A_l_letters : At K mg "_law_letters" s_l_letters ["bag", "most"]
  A_l_word : At K mg "_law_word" s_l_word ["bag", "letters", "most"]
  A_l_words : At K mg "_law_words" s_l_words ["letters", "most"]
  A_l_ladder : At K mg "_law_ladder" s_l_ladder ["bag", "letters", "states"]
  A_l_cost : At K mg "_law_cost" s_l_cost ["ladder", "word"]
  A_l_turned : At K mg "_law_turned" s_l_turned ["ladder"]
  A_l_moved : At K mg "_law_moved" s_l_moved ["ladder", "state", "number"]
  A_l_early : At K mg "_law_early" s_l_early ["ladder"]
  A_l_told : At K mg "_law_told" s_l_told ["which", "ladder", "other"]
  A_l_doors : At K mg "_law_doors" s_l_doors ["bag", "letters", "ladder"]
  A_law : At K mg "law" s_law ["script"]
  X_CostError : ExAt K mg "CostError"
  X_BadWord : ExAt K mg "BadWord"
  X_BadOther : ExAt K mg "BadOther"
  X_Unlike : ExAt K mg "Unlike"
  X_BadLadder : ExAt K mg "BadLadder"
  e_BadWord_BadWord : PySem.W.subIn K (.ref X_BadWord.C) (.ref X_BadWord.C) = some true
  e_BadWord_BadOther : PySem.W.subIn K (.ref X_BadWord.C) (.ref X_BadOther.C) = some false
  e_BadWord_Unlike : PySem.W.subIn K (.ref X_BadWord.C) (.ref X_Unlike.C) = some false
  e_BadWord_BadLadder : PySem.W.subIn K (.ref X_BadWord.C) (.ref X_BadLadder.C) = some false
  e_BadOther_BadWord : PySem.W.subIn K (.ref X_BadOther.C) (.ref X_BadWord.C) = some false
  e_BadOther_BadOther : PySem.W.subIn K (.ref X_BadOther.C) (.ref X_BadOther.C) = some true
  e_BadOther_Unlike : PySem.W.subIn K (.ref X_BadOther.C) (.ref X_Unlike.C) = some false
  e_BadOther_BadLadder : PySem.W.subIn K (.ref X_BadOther.C) (.ref X_BadLadder.C) = some false
  e_Unlike_BadWord : PySem.W.subIn K (.ref X_Unlike.C) (.ref X_BadWord.C) = some false
  e_Unlike_BadOther : PySem.W.subIn K (.ref X_Unlike.C) (.ref X_BadOther.C) = some false
  e_Unlike_Unlike : PySem.W.subIn K (.ref X_Unlike.C) (.ref X_Unlike.C) = some true
  e_Unlike_BadLadder : PySem.W.subIn K (.ref X_Unlike.C) (.ref X_BadLadder.C) = some false
  e_BadLadder_BadWord : PySem.W.subIn K (.ref X_BadLadder.C) (.ref X_BadWord.C) = some false
  e_BadLadder_BadOther : PySem.W.subIn K (.ref X_BadLadder.C) (.ref X_BadOther.C) = some false
  e_BadLadder_Unlike : PySem.W.subIn K (.ref X_BadLadder.C) (.ref X_Unlike.C) = some false
  e_BadLadder_BadLadder : PySem.W.subIn K (.ref X_BadLadder.C) (.ref X_BadLadder.C) = some true
  n_isinstance : mg "isinstance" = none
  n_len : mg "len" = none
  n_all : mg "all" = none
  n_min : mg "min" = none
  n_max : mg "max" = none
  n_sorted : mg "sorted" = none
  n_zip : mg "zip" = none
  n_enumerate : mg "enumerate" = none
  n_range : mg "range" = none
  n_int : mg "int" = none
  n_str : mg "str" = none
  n_bool : mg "bool" = none
  n_tuple : mg "tuple" = none
  n_list : mg "list" = none
  n_set : mg "set" = none
  n_dict : mg "dict" = none
  tk_SMALL_LETTERS : Tok
  v_SMALL_LETTERS : mg "SMALL_LETTERS" = some (.str (PySem.Str.ofString "abcdefghijklmnopqrstuvwxyz") tk_SMALL_LETTERS)
  tk_DIGITS : Tok
  v_DIGITS : mg "DIGITS" = some (.str (PySem.Str.ofString "0123456789") tk_DIGITS)
  tk_LONGEST_NAME : Tok
  v_LONGEST_NAME : mg "LONGEST_NAME" = some (.int 10 tk_LONGEST_NAME)
  tk_MOST_LETTERS : Tok
  v_MOST_LETTERS : mg "MOST_LETTERS" = some (.int 6 tk_MOST_LETTERS)
  tk_LONGEST_WORD : Tok
  v_LONGEST_WORD : mg "LONGEST_WORD" = some (.int 1000 tk_LONGEST_WORD)
  tk_MOST_RUNGS : Tok
  v_MOST_RUNGS : mg "MOST_RUNGS" = some (.int 100 tk_MOST_RUNGS)
  tk_MOST_PRICE : Tok
  v_MOST_PRICE : mg "MOST_PRICE" = some (.int 1000000 tk_MOST_PRICE)
end K96

set_option maxRecDepth 100000
set_option maxHeartbeats 2000000
namespace K96
open PySem PySem.Spec PyProof.Rows L2 KD
noncomputable def txt_mk {K : PySem.W.Frag} {h : Heap} {mg : Str → Option Value} (X : K.In h) (G : h.Ns mainGlobals mg)
    {f0 : Addr} {od0 an0 : Option Addr} {sl0 : Array (Option Value)} {oc0 kV0 dc0 pm0 cd0 ct0 : Value}
    (a0 : PySem.W.nsIn K mainGlobals "is_int" = some (some (.ref f0))) (l0 : K.lookup f0 = some ⟨oc0, od0, .func (PySem.W.fnOf "is_int" "is_int" (defArgs s_is_int) (defBody s_is_int) (defScope s_is_int) .none kV0 dc0 pm0 an0 cd0 ct0), sl0⟩) (c0 : PySem.W.codeIn K cd0 "is_int" = true) (k0 : PySem.W.keepIn K (.ref f0) = true)
    {f1 : Addr} {od1 an1 : Option Addr} {sl1 : Array (Option Value)} {oc1 kV1 dc1 pm1 cd1 ct1 : Value}
    (a1 : PySem.W.nsIn K mainGlobals "within" = some (some (.ref f1))) (l1 : K.lookup f1 = some ⟨oc1, od1, .func (PySem.W.fnOf "within" "within" (defArgs s_within) (defBody s_within) (defScope s_within) .none kV1 dc1 pm1 an1 cd1 ct1), sl1⟩) (c1 : PySem.W.codeIn K cd1 "within" = true) (k1 : PySem.W.keepIn K (.ref f1) = true)
    {f2 : Addr} {od2 an2 : Option Addr} {sl2 : Array (Option Value)} {oc2 kV2 dc2 pm2 cd2 ct2 : Value}
    (a2 : PySem.W.nsIn K mainGlobals "is_row" = some (some (.ref f2))) (l2 : K.lookup f2 = some ⟨oc2, od2, .func (PySem.W.fnOf "is_row" "is_row" (defArgs s_is_row) (defBody s_is_row) (defScope s_is_row) .none kV2 dc2 pm2 an2 cd2 ct2), sl2⟩) (c2 : PySem.W.codeIn K cd2 "is_row" = true) (k2 : PySem.W.keepIn K (.ref f2) = true)
    {f3 : Addr} {od3 an3 : Option Addr} {sl3 : Array (Option Value)} {oc3 kV3 dc3 pm3 cd3 ct3 : Value}
    (a3 : PySem.W.nsIn K mainGlobals "is_low_name" = some (some (.ref f3))) (l3 : K.lookup f3 = some ⟨oc3, od3, .func (PySem.W.fnOf "is_low_name" "is_low_name" (defArgs s_is_low_name) (defBody s_is_low_name) (defScope s_is_low_name) .none kV3 dc3 pm3 an3 cd3 ct3), sl3⟩) (c3 : PySem.W.codeIn K cd3 "is_low_name" = true) (k3 : PySem.W.keepIn K (.ref f3) = true)
    {f4 : Addr} {od4 an4 : Option Addr} {sl4 : Array (Option Value)} {oc4 kV4 dc4 pm4 cd4 ct4 : Value}
    (a4 : PySem.W.nsIn K mainGlobals "are_letters" = some (some (.ref f4))) (l4 : K.lookup f4 = some ⟨oc4, od4, .func (PySem.W.fnOf "are_letters" "are_letters" (defArgs s_are_letters) (defBody s_are_letters) (defScope s_are_letters) .none kV4 dc4 pm4 an4 cd4 ct4), sl4⟩) (c4 : PySem.W.codeIn K cd4 "are_letters" = true) (k4 : PySem.W.keepIn K (.ref f4) = true)
    {f5 : Addr} {od5 an5 : Option Addr} {sl5 : Array (Option Value)} {oc5 kV5 dc5 pm5 cd5 ct5 : Value}
    (a5 : PySem.W.nsIn K mainGlobals "is_word_over" = some (some (.ref f5))) (l5 : K.lookup f5 = some ⟨oc5, od5, .func (PySem.W.fnOf "is_word_over" "is_word_over" (defArgs s_is_word_over) (defBody s_is_word_over) (defScope s_is_word_over) .none kV5 dc5 pm5 an5 cd5 ct5), sl5⟩) (c5 : PySem.W.codeIn K cd5 "is_word_over" = true) (k5 : PySem.W.keepIn K (.ref f5) = true)
    {f6 : Addr} {od6 an6 : Option Addr} {sl6 : Array (Option Value)} {oc6 kV6 dc6 pm6 cd6 ct6 : Value}
    (a6 : PySem.W.nsIn K mainGlobals "need_word" = some (some (.ref f6))) (l6 : K.lookup f6 = some ⟨oc6, od6, .func (PySem.W.fnOf "need_word" "need_word" (defArgs s_need_word) (defBody s_need_word) (defScope s_need_word) .none kV6 dc6 pm6 an6 cd6 ct6), sl6⟩) (c6 : PySem.W.codeIn K cd6 "need_word" = true) (k6 : PySem.W.keepIn K (.ref f6) = true)
    {f7 : Addr} {od7 an7 : Option Addr} {sl7 : Array (Option Value)} {oc7 kV7 dc7 pm7 cd7 ct7 : Value}
    (a7 : PySem.W.nsIn K mainGlobals "need_alike" = some (some (.ref f7))) (l7 : K.lookup f7 = some ⟨oc7, od7, .func (PySem.W.fnOf "need_alike" "need_alike" (defArgs s_need_alike) (defBody s_need_alike) (defScope s_need_alike) .none kV7 dc7 pm7 an7 cd7 ct7), sl7⟩) (c7 : PySem.W.codeIn K cd7 "need_alike" = true) (k7 : PySem.W.keepIn K (.ref f7) = true)
    {f8 : Addr} {od8 an8 : Option Addr} {sl8 : Array (Option Value)} {oc8 kV8 dc8 pm8 cd8 ct8 : Value}
    (a8 : PySem.W.nsIn K mainGlobals "numbered" = some (some (.ref f8))) (l8 : K.lookup f8 = some ⟨oc8, od8, .func (PySem.W.fnOf "numbered" "numbered" (defArgs s_numbered) (defBody s_numbered) (defScope s_numbered) .none kV8 dc8 pm8 an8 cd8 ct8), sl8⟩) (c8 : PySem.W.codeIn K cd8 "numbered" = true) (k8 : PySem.W.keepIn K (.ref f8) = true)
    {f9 : Addr} {od9 an9 : Option Addr} {sl9 : Array (Option Value)} {oc9 kV9 dc9 pm9 cd9 ct9 : Value}
    (a9 : PySem.W.nsIn K mainGlobals "is_rung" = some (some (.ref f9))) (l9 : K.lookup f9 = some ⟨oc9, od9, .func (PySem.W.fnOf "is_rung" "is_rung" (defArgs s_is_rung) (defBody s_is_rung) (defScope s_is_rung) .none kV9 dc9 pm9 an9 cd9 ct9), sl9⟩) (c9 : PySem.W.codeIn K cd9 "is_rung" = true) (k9 : PySem.W.keepIn K (.ref f9) = true)
    {f10 : Addr} {od10 an10 : Option Addr} {sl10 : Array (Option Value)} {oc10 kV10 dc10 pm10 cd10 ct10 : Value}
    (a10 : PySem.W.nsIn K mainGlobals "is_ladder" = some (some (.ref f10))) (l10 : K.lookup f10 = some ⟨oc10, od10, .func (PySem.W.fnOf "is_ladder" "is_ladder" (defArgs s_is_ladder) (defBody s_is_ladder) (defScope s_is_ladder) .none kV10 dc10 pm10 an10 cd10 ct10), sl10⟩) (c10 : PySem.W.codeIn K cd10 "is_ladder" = true) (k10 : PySem.W.keepIn K (.ref f10) = true)
    {f11 : Addr} {od11 an11 : Option Addr} {sl11 : Array (Option Value)} {oc11 kV11 dc11 pm11 cd11 ct11 : Value}
    (a11 : PySem.W.nsIn K mainGlobals "need_ladder" = some (some (.ref f11))) (l11 : K.lookup f11 = some ⟨oc11, od11, .func (PySem.W.fnOf "need_ladder" "need_ladder" (defArgs s_need_ladder) (defBody s_need_ladder) (defScope s_need_ladder) .none kV11 dc11 pm11 an11 cd11 ct11), sl11⟩) (c11 : PySem.W.codeIn K cd11 "need_ladder" = true) (k11 : PySem.W.keepIn K (.ref f11) = true)
    {f12 : Addr} {od12 an12 : Option Addr} {sl12 : Array (Option Value)} {oc12 kV12 dc12 pm12 cd12 ct12 : Value}
    (a12 : PySem.W.nsIn K mainGlobals "cost_on" = some (some (.ref f12))) (l12 : K.lookup f12 = some ⟨oc12, od12, .func (PySem.W.fnOf "cost_on" "cost_on" (defArgs s_cost_on) (defBody s_cost_on) (defScope s_cost_on) .none kV12 dc12 pm12 an12 cd12 ct12), sl12⟩) (c12 : PySem.W.codeIn K cd12 "cost_on" = true) (k12 : PySem.W.keepIn K (.ref f12) = true)
    {f13 : Addr} {od13 an13 : Option Addr} {sl13 : Array (Option Value)} {oc13 kV13 dc13 pm13 cd13 ct13 : Value}
    (a13 : PySem.W.nsIn K mainGlobals "ladder_cost" = some (some (.ref f13))) (l13 : K.lookup f13 = some ⟨oc13, od13, .func (PySem.W.fnOf "ladder_cost" "ladder_cost" (defArgs s_ladder_cost) (defBody s_ladder_cost) (defScope s_ladder_cost) .none kV13 dc13 pm13 an13 cd13 ct13), sl13⟩) (c13 : PySem.W.codeIn K cd13 "ladder_cost" = true) (k13 : PySem.W.keepIn K (.ref f13) = true)
    {f14 : Addr} {od14 an14 : Option Addr} {sl14 : Array (Option Value)} {oc14 kV14 dc14 pm14 cd14 ct14 : Value}
    (a14 : PySem.W.nsIn K mainGlobals "least_rests" = some (some (.ref f14))) (l14 : K.lookup f14 = some ⟨oc14, od14, .func (PySem.W.fnOf "least_rests" "least_rests" (defArgs s_least_rests) (defBody s_least_rests) (defScope s_least_rests) .none kV14 dc14 pm14 an14 cd14 ct14), sl14⟩) (c14 : PySem.W.codeIn K cd14 "least_rests" = true) (k14 : PySem.W.keepIn K (.ref f14) = true)
    {f15 : Addr} {od15 an15 : Option Addr} {sl15 : Array (Option Value)} {oc15 kV15 dc15 pm15 cd15 ct15 : Value}
    (a15 : PySem.W.nsIn K mainGlobals "early_entry" = some (some (.ref f15))) (l15 : K.lookup f15 = some ⟨oc15, od15, .func (PySem.W.fnOf "early_entry" "early_entry" (defArgs s_early_entry) (defBody s_early_entry) (defScope s_early_entry) .none kV15 dc15 pm15 an15 cd15 ct15), sl15⟩) (c15 : PySem.W.codeIn K cd15 "early_entry" = true) (k15 : PySem.W.keepIn K (.ref f15) = true)
    {f16 : Addr} {od16 an16 : Option Addr} {sl16 : Array (Option Value)} {oc16 kV16 dc16 pm16 cd16 ct16 : Value}
    (a16 : PySem.W.nsIn K mainGlobals "early_ladder" = some (some (.ref f16))) (l16 : K.lookup f16 = some ⟨oc16, od16, .func (PySem.W.fnOf "early_ladder" "early_ladder" (defArgs s_early_ladder) (defBody s_early_ladder) (defScope s_early_ladder) .none kV16 dc16 pm16 an16 cd16 ct16), sl16⟩) (c16 : PySem.W.codeIn K cd16 "early_ladder" = true) (k16 : PySem.W.keepIn K (.ref f16) = true)
    {f17 : Addr} {od17 an17 : Option Addr} {sl17 : Array (Option Value)} {oc17 kV17 dc17 pm17 cd17 ct17 : Value}
    (a17 : PySem.W.nsIn K mainGlobals "classes_of_rungs" = some (some (.ref f17))) (l17 : K.lookup f17 = some ⟨oc17, od17, .func (PySem.W.fnOf "classes_of_rungs" "classes_of_rungs" (defArgs s_classes_of_rungs) (defBody s_classes_of_rungs) (defScope s_classes_of_rungs) .none kV17 dc17 pm17 an17 cd17 ct17), sl17⟩) (c17 : PySem.W.codeIn K cd17 "classes_of_rungs" = true) (k17 : PySem.W.keepIn K (.ref f17) = true)
    {f18 : Addr} {od18 an18 : Option Addr} {sl18 : Array (Option Value)} {oc18 kV18 dc18 pm18 cd18 ct18 : Value}
    (a18 : PySem.W.nsIn K mainGlobals "least_of_ladder" = some (some (.ref f18))) (l18 : K.lookup f18 = some ⟨oc18, od18, .func (PySem.W.fnOf "least_of_ladder" "least_of_ladder" (defArgs s_least_of_ladder) (defBody s_least_of_ladder) (defScope s_least_of_ladder) .none kV18 dc18 pm18 an18 cd18 ct18), sl18⟩) (c18 : PySem.W.codeIn K cd18 "least_of_ladder" = true) (k18 : PySem.W.keepIn K (.ref f18) = true)
    {f19 : Addr} {od19 an19 : Option Addr} {sl19 : Array (Option Value)} {oc19 kV19 dc19 pm19 cd19 ct19 : Value}
    (a19 : PySem.W.nsIn K mainGlobals "least_ladder" = some (some (.ref f19))) (l19 : K.lookup f19 = some ⟨oc19, od19, .func (PySem.W.fnOf "least_ladder" "least_ladder" (defArgs s_least_ladder) (defBody s_least_ladder) (defScope s_least_ladder) .none kV19 dc19 pm19 an19 cd19 ct19), sl19⟩) (c19 : PySem.W.codeIn K cd19 "least_ladder" = true) (k19 : PySem.W.keepIn K (.ref f19) = true)
    {f20 : Addr} {od20 an20 : Option Addr} {sl20 : Array (Option Value)} {oc20 kV20 dc20 pm20 cd20 ct20 : Value}
    (a20 : PySem.W.nsIn K mainGlobals "is_least_ladder" = some (some (.ref f20))) (l20 : K.lookup f20 = some ⟨oc20, od20, .func (PySem.W.fnOf "is_least_ladder" "is_least_ladder" (defArgs s_is_least_ladder) (defBody s_is_least_ladder) (defScope s_is_least_ladder) .none kV20 dc20 pm20 an20 cd20 ct20), sl20⟩) (c20 : PySem.W.codeIn K cd20 "is_least_ladder" = true) (k20 : PySem.W.keepIn K (.ref f20) = true)
    {f21 : Addr} {od21 an21 : Option Addr} {sl21 : Array (Option Value)} {oc21 kV21 dc21 pm21 cd21 ct21 : Value}
    (a21 : PySem.W.nsIn K mainGlobals "same_ladders" = some (some (.ref f21))) (l21 : K.lookup f21 = some ⟨oc21, od21, .func (PySem.W.fnOf "same_ladders" "same_ladders" (defArgs s_same_ladders) (defBody s_same_ladders) (defScope s_same_ladders) .none kV21 dc21 pm21 an21 cd21 ct21), sl21⟩) (c21 : PySem.W.codeIn K cd21 "same_ladders" = true) (k21 : PySem.W.keepIn K (.ref f21) = true)
    {f22 : Addr} {od22 an22 : Option Addr} {sl22 : Array (Option Value)} {oc22 kV22 dc22 pm22 cd22 ct22 : Value}
    (a22 : PySem.W.nsIn K mainGlobals "_law_bag" = some (some (.ref f22))) (l22 : K.lookup f22 = some ⟨oc22, od22, .func (PySem.W.fnOf "_law_bag" "_law_bag" (defArgs s_l_bag) (defBody s_l_bag) (defScope s_l_bag) .none kV22 dc22 pm22 an22 cd22 ct22), sl22⟩) (c22 : PySem.W.codeIn K cd22 "_law_bag" = true) (k22 : PySem.W.keepIn K (.ref f22) = true)
    {f23 : Addr} {od23 an23 : Option Addr} {sl23 : Array (Option Value)} {oc23 kV23 dc23 pm23 cd23 ct23 : Value}
    (a23 : PySem.W.nsIn K mainGlobals "_law_pick" = some (some (.ref f23))) (l23 : K.lookup f23 = some ⟨oc23, od23, .func (PySem.W.fnOf "_law_pick" "_law_pick" (defArgs s_l_pick) (defBody s_l_pick) (defScope s_l_pick) .none kV23 dc23 pm23 an23 cd23 ct23), sl23⟩) (c23 : PySem.W.codeIn K cd23 "_law_pick" = true) (k23 : PySem.W.keepIn K (.ref f23) = true)
    {f24 : Addr} {od24 an24 : Option Addr} {sl24 : Array (Option Value)} {oc24 kV24 dc24 pm24 cd24 ct24 : Value}
    (a24 : PySem.W.nsIn K mainGlobals "_law_same" = some (some (.ref f24))) (l24 : K.lookup f24 = some ⟨oc24, od24, .func (PySem.W.fnOf "_law_same" "_law_same" (defArgs s_l_same) (defBody s_l_same) (defScope s_l_same) .none kV24 dc24 pm24 an24 cd24 ct24), sl24⟩) (c24 : PySem.W.codeIn K cd24 "_law_same" = true) (k24 : PySem.W.keepIn K (.ref f24) = true)
    {f25 : Addr} {od25 an25 : Option Addr} {sl25 : Array (Option Value)} {oc25 kV25 dc25 pm25 cd25 ct25 : Value}
    (a25 : PySem.W.nsIn K mainGlobals "_law_letters" = some (some (.ref f25))) (l25 : K.lookup f25 = some ⟨oc25, od25, .func (PySem.W.fnOf "_law_letters" "_law_letters" (defArgs s_l_letters) (defBody s_l_letters) (defScope s_l_letters) .none kV25 dc25 pm25 an25 cd25 ct25), sl25⟩) (c25 : PySem.W.codeIn K cd25 "_law_letters" = true) (k25 : PySem.W.keepIn K (.ref f25) = true)
    {f26 : Addr} {od26 an26 : Option Addr} {sl26 : Array (Option Value)} {oc26 kV26 dc26 pm26 cd26 ct26 : Value}
    (a26 : PySem.W.nsIn K mainGlobals "_law_word" = some (some (.ref f26))) (l26 : K.lookup f26 = some ⟨oc26, od26, .func (PySem.W.fnOf "_law_word" "_law_word" (defArgs s_l_word) (defBody s_l_word) (defScope s_l_word) .none kV26 dc26 pm26 an26 cd26 ct26), sl26⟩) (c26 : PySem.W.codeIn K cd26 "_law_word" = true) (k26 : PySem.W.keepIn K (.ref f26) = true)
    {f27 : Addr} {od27 an27 : Option Addr} {sl27 : Array (Option Value)} {oc27 kV27 dc27 pm27 cd27 ct27 : Value}
    (a27 : PySem.W.nsIn K mainGlobals "_law_words" = some (some (.ref f27))) (l27 : K.lookup f27 = some ⟨oc27, od27, .func (PySem.W.fnOf "_law_words" "_law_words" (defArgs s_l_words) (defBody s_l_words) (defScope s_l_words) .none kV27 dc27 pm27 an27 cd27 ct27), sl27⟩) (c27 : PySem.W.codeIn K cd27 "_law_words" = true) (k27 : PySem.W.keepIn K (.ref f27) = true)
    {f28 : Addr} {od28 an28 : Option Addr} {sl28 : Array (Option Value)} {oc28 kV28 dc28 pm28 cd28 ct28 : Value}
    (a28 : PySem.W.nsIn K mainGlobals "_law_ladder" = some (some (.ref f28))) (l28 : K.lookup f28 = some ⟨oc28, od28, .func (PySem.W.fnOf "_law_ladder" "_law_ladder" (defArgs s_l_ladder) (defBody s_l_ladder) (defScope s_l_ladder) .none kV28 dc28 pm28 an28 cd28 ct28), sl28⟩) (c28 : PySem.W.codeIn K cd28 "_law_ladder" = true) (k28 : PySem.W.keepIn K (.ref f28) = true)
    {f29 : Addr} {od29 an29 : Option Addr} {sl29 : Array (Option Value)} {oc29 kV29 dc29 pm29 cd29 ct29 : Value}
    (a29 : PySem.W.nsIn K mainGlobals "_law_cost" = some (some (.ref f29))) (l29 : K.lookup f29 = some ⟨oc29, od29, .func (PySem.W.fnOf "_law_cost" "_law_cost" (defArgs s_l_cost) (defBody s_l_cost) (defScope s_l_cost) .none kV29 dc29 pm29 an29 cd29 ct29), sl29⟩) (c29 : PySem.W.codeIn K cd29 "_law_cost" = true) (k29 : PySem.W.keepIn K (.ref f29) = true)
    {f30 : Addr} {od30 an30 : Option Addr} {sl30 : Array (Option Value)} {oc30 kV30 dc30 pm30 cd30 ct30 : Value}
    (a30 : PySem.W.nsIn K mainGlobals "_law_turned" = some (some (.ref f30))) (l30 : K.lookup f30 = some ⟨oc30, od30, .func (PySem.W.fnOf "_law_turned" "_law_turned" (defArgs s_l_turned) (defBody s_l_turned) (defScope s_l_turned) .none kV30 dc30 pm30 an30 cd30 ct30), sl30⟩) (c30 : PySem.W.codeIn K cd30 "_law_turned" = true) (k30 : PySem.W.keepIn K (.ref f30) = true)
    {f31 : Addr} {od31 an31 : Option Addr} {sl31 : Array (Option Value)} {oc31 kV31 dc31 pm31 cd31 ct31 : Value}
    (a31 : PySem.W.nsIn K mainGlobals "_law_moved" = some (some (.ref f31))) (l31 : K.lookup f31 = some ⟨oc31, od31, .func (PySem.W.fnOf "_law_moved" "_law_moved" (defArgs s_l_moved) (defBody s_l_moved) (defScope s_l_moved) .none kV31 dc31 pm31 an31 cd31 ct31), sl31⟩) (c31 : PySem.W.codeIn K cd31 "_law_moved" = true) (k31 : PySem.W.keepIn K (.ref f31) = true)
    {f32 : Addr} {od32 an32 : Option Addr} {sl32 : Array (Option Value)} {oc32 kV32 dc32 pm32 cd32 ct32 : Value}
    (a32 : PySem.W.nsIn K mainGlobals "_law_early" = some (some (.ref f32))) (l32 : K.lookup f32 = some ⟨oc32, od32, .func (PySem.W.fnOf "_law_early" "_law_early" (defArgs s_l_early) (defBody s_l_early) (defScope s_l_early) .none kV32 dc32 pm32 an32 cd32 ct32), sl32⟩) (c32 : PySem.W.codeIn K cd32 "_law_early" = true) (k32 : PySem.W.keepIn K (.ref f32) = true)
    {f33 : Addr} {od33 an33 : Option Addr} {sl33 : Array (Option Value)} {oc33 kV33 dc33 pm33 cd33 ct33 : Value}
    (a33 : PySem.W.nsIn K mainGlobals "_law_told" = some (some (.ref f33))) (l33 : K.lookup f33 = some ⟨oc33, od33, .func (PySem.W.fnOf "_law_told" "_law_told" (defArgs s_l_told) (defBody s_l_told) (defScope s_l_told) .none kV33 dc33 pm33 an33 cd33 ct33), sl33⟩) (c33 : PySem.W.codeIn K cd33 "_law_told" = true) (k33 : PySem.W.keepIn K (.ref f33) = true)
    {f34 : Addr} {od34 an34 : Option Addr} {sl34 : Array (Option Value)} {oc34 kV34 dc34 pm34 cd34 ct34 : Value}
    (a34 : PySem.W.nsIn K mainGlobals "_law_doors" = some (some (.ref f34))) (l34 : K.lookup f34 = some ⟨oc34, od34, .func (PySem.W.fnOf "_law_doors" "_law_doors" (defArgs s_l_doors) (defBody s_l_doors) (defScope s_l_doors) .none kV34 dc34 pm34 an34 cd34 ct34), sl34⟩) (c34 : PySem.W.codeIn K cd34 "_law_doors" = true) (k34 : PySem.W.keepIn K (.ref f34) = true)
    {f35 : Addr} {od35 an35 : Option Addr} {sl35 : Array (Option Value)} {oc35 kV35 dc35 pm35 cd35 ct35 : Value}
    (a35 : PySem.W.nsIn K mainGlobals "law" = some (some (.ref f35))) (l35 : K.lookup f35 = some ⟨oc35, od35, .func (PySem.W.fnOf "law" "law" (defArgs s_law) (defBody s_law) (defScope s_law) .none kV35 dc35 pm35 an35 cd35 ct35), sl35⟩) (c35 : PySem.W.codeIn K cd35 "law" = true) (k35 : PySem.W.keepIn K (.ref f35) = true)
    {C0 : Addr} (xa0 : PySem.W.nsIn K mainGlobals "CostError" = some (some (.ref C0))) (xe0 : PySem.W.excIn K C0 [.type "ValueError", .type "Exception", .type "BaseException", .type "object"] "ValueError.__new__" = true) (xk0 : PySem.W.keepIn K (.ref C0) = true) (xs0 : PySem.W.subIn K (.ref C0) (.type "BaseException") = some true) (xt0 : PySem.W.typeIn K (.ref C0) = some (.type "type")) (xc0 : PySem.W.isClsIn K C0 = true)
    {C1 : Addr} (xa1 : PySem.W.nsIn K mainGlobals "BadWord" = some (some (.ref C1))) (xe1 : PySem.W.excIn K C1 [.type "ValueError", .type "Exception", .type "BaseException", .type "object"] "ValueError.__new__" = true) (xk1 : PySem.W.keepIn K (.ref C1) = true) (xs1 : PySem.W.subIn K (.ref C1) (.type "BaseException") = some true) (xt1 : PySem.W.typeIn K (.ref C1) = some (.type "type")) (xc1 : PySem.W.isClsIn K C1 = true)
    {C2 : Addr} (xa2 : PySem.W.nsIn K mainGlobals "BadOther" = some (some (.ref C2))) (xe2 : PySem.W.excIn K C2 [.type "ValueError", .type "Exception", .type "BaseException", .type "object"] "ValueError.__new__" = true) (xk2 : PySem.W.keepIn K (.ref C2) = true) (xs2 : PySem.W.subIn K (.ref C2) (.type "BaseException") = some true) (xt2 : PySem.W.typeIn K (.ref C2) = some (.type "type")) (xc2 : PySem.W.isClsIn K C2 = true)
    {C3 : Addr} (xa3 : PySem.W.nsIn K mainGlobals "Unlike" = some (some (.ref C3))) (xe3 : PySem.W.excIn K C3 [.type "ValueError", .type "Exception", .type "BaseException", .type "object"] "ValueError.__new__" = true) (xk3 : PySem.W.keepIn K (.ref C3) = true) (xs3 : PySem.W.subIn K (.ref C3) (.type "BaseException") = some true) (xt3 : PySem.W.typeIn K (.ref C3) = some (.type "type")) (xc3 : PySem.W.isClsIn K C3 = true)
    {C4 : Addr} (xa4 : PySem.W.nsIn K mainGlobals "BadLadder" = some (some (.ref C4))) (xe4 : PySem.W.excIn K C4 [.type "ValueError", .type "Exception", .type "BaseException", .type "object"] "ValueError.__new__" = true) (xk4 : PySem.W.keepIn K (.ref C4) = true) (xs4 : PySem.W.subIn K (.ref C4) (.type "BaseException") = some true) (xt4 : PySem.W.typeIn K (.ref C4) = some (.type "type")) (xc4 : PySem.W.isClsIn K C4 = true)
    (e1_1 : PySem.W.subIn K (.ref C1) (.ref C1) = some true)
    (e1_2 : PySem.W.subIn K (.ref C1) (.ref C2) = some false)
    (e1_3 : PySem.W.subIn K (.ref C1) (.ref C3) = some false)
    (e1_4 : PySem.W.subIn K (.ref C1) (.ref C4) = some false)
    (e2_1 : PySem.W.subIn K (.ref C2) (.ref C1) = some false)
    (e2_2 : PySem.W.subIn K (.ref C2) (.ref C2) = some true)
    (e2_3 : PySem.W.subIn K (.ref C2) (.ref C3) = some false)
    (e2_4 : PySem.W.subIn K (.ref C2) (.ref C4) = some false)
    (e3_1 : PySem.W.subIn K (.ref C3) (.ref C1) = some false)
    (e3_2 : PySem.W.subIn K (.ref C3) (.ref C2) = some false)
    (e3_3 : PySem.W.subIn K (.ref C3) (.ref C3) = some true)
    (e3_4 : PySem.W.subIn K (.ref C3) (.ref C4) = some false)
    (e4_1 : PySem.W.subIn K (.ref C4) (.ref C1) = some false)
    (e4_2 : PySem.W.subIn K (.ref C4) (.ref C2) = some false)
    (e4_3 : PySem.W.subIn K (.ref C4) (.ref C3) = some false)
    (e4_4 : PySem.W.subIn K (.ref C4) (.ref C4) = some true)
    (z0 : PySem.W.nsIn K mainGlobals "isinstance" = some none)
    (z1 : PySem.W.nsIn K mainGlobals "len" = some none)
    (z2 : PySem.W.nsIn K mainGlobals "all" = some none)
    (z3 : PySem.W.nsIn K mainGlobals "min" = some none)
    (z4 : PySem.W.nsIn K mainGlobals "max" = some none)
    (z5 : PySem.W.nsIn K mainGlobals "sorted" = some none)
    (z6 : PySem.W.nsIn K mainGlobals "zip" = some none)
    (z7 : PySem.W.nsIn K mainGlobals "enumerate" = some none)
    (z8 : PySem.W.nsIn K mainGlobals "range" = some none)
    (z9 : PySem.W.nsIn K mainGlobals "int" = some none)
    (z10 : PySem.W.nsIn K mainGlobals "str" = some none)
    (z11 : PySem.W.nsIn K mainGlobals "bool" = some none)
    (z12 : PySem.W.nsIn K mainGlobals "tuple" = some none)
    (z13 : PySem.W.nsIn K mainGlobals "list" = some none)
    (z14 : PySem.W.nsIn K mainGlobals "set" = some none)
    (z15 : PySem.W.nsIn K mainGlobals "dict" = some none)
    {t0 : Tok} (v0 : PySem.W.nsIn K mainGlobals "SMALL_LETTERS" = some (some (.str (PySem.Str.ofString "abcdefghijklmnopqrstuvwxyz") t0)))
    {t1 : Tok} (v1 : PySem.W.nsIn K mainGlobals "DIGITS" = some (some (.str (PySem.Str.ofString "0123456789") t1)))
    {t2 : Tok} (v2 : PySem.W.nsIn K mainGlobals "LONGEST_NAME" = some (some (.int 10 t2)))
    {t3 : Tok} (v3 : PySem.W.nsIn K mainGlobals "MOST_LETTERS" = some (some (.int 6 t3)))
    {t4 : Tok} (v4 : PySem.W.nsIn K mainGlobals "LONGEST_WORD" = some (some (.int 1000 t4)))
    {t5 : Tok} (v5 : PySem.W.nsIn K mainGlobals "MOST_RUNGS" = some (some (.int 100 t5)))
    {t6 : Tok} (v6 : PySem.W.nsIn K mainGlobals "MOST_PRICE" = some (some (.int 1000000 t6)))
    : Txt K mg where
  A_is_int := let F := fun_mk (st := s_is_int) l0 c0 k0; ⟨f0, _, F, PySem.W.mg_of X G a0, F.binds fun _ _ _ _ _ _ us hl => match us, hl with | [_], _ => rfl⟩
  A_within := let F := fun_mk (st := s_within) l1 c1 k1; ⟨f1, _, F, PySem.W.mg_of X G a1, F.binds fun _ _ _ _ _ _ us hl => match us, hl with | [_, _, _], _ => rfl⟩
  A_is_row := let F := fun_mk (st := s_is_row) l2 c2 k2; ⟨f2, _, F, PySem.W.mg_of X G a2, F.binds fun _ _ _ _ _ _ us hl => match us, hl with | [_, _, _], _ => rfl⟩
  A_is_low_name := let F := fun_mk (st := s_is_low_name) l3 c3 k3; ⟨f3, _, F, PySem.W.mg_of X G a3, F.binds fun _ _ _ _ _ _ us hl => match us, hl with | [_], _ => rfl⟩
  A_are_letters := let F := fun_mk (st := s_are_letters) l4 c4 k4; ⟨f4, _, F, PySem.W.mg_of X G a4, F.binds fun _ _ _ _ _ _ us hl => match us, hl with | [_], _ => rfl⟩
  A_is_word_over := let F := fun_mk (st := s_is_word_over) l5 c5 k5; ⟨f5, _, F, PySem.W.mg_of X G a5, F.binds fun _ _ _ _ _ _ us hl => match us, hl with | [_, _], _ => rfl⟩
  A_need_word := let F := fun_mk (st := s_need_word) l6 c6 k6; ⟨f6, _, F, PySem.W.mg_of X G a6, F.binds fun _ _ _ _ _ _ us hl => match us, hl with | [_, _], _ => rfl⟩
  A_need_alike := let F := fun_mk (st := s_need_alike) l7 c7 k7; ⟨f7, _, F, PySem.W.mg_of X G a7, F.binds fun _ _ _ _ _ _ us hl => match us, hl with | [_, _], _ => rfl⟩
  A_numbered := let F := fun_mk (st := s_numbered) l8 c8 k8; ⟨f8, _, F, PySem.W.mg_of X G a8, F.binds fun _ _ _ _ _ _ us hl => match us, hl with | [_], _ => rfl⟩
  A_is_rung := let F := fun_mk (st := s_is_rung) l9 c9 k9; ⟨f9, _, F, PySem.W.mg_of X G a9, F.binds fun _ _ _ _ _ _ us hl => match us, hl with | [_, _, _], _ => rfl⟩
  A_is_ladder := let F := fun_mk (st := s_is_ladder) l10 c10 k10; ⟨f10, _, F, PySem.W.mg_of X G a10, F.binds fun _ _ _ _ _ _ us hl => match us, hl with | [_], _ => rfl⟩
  A_need_ladder := let F := fun_mk (st := s_need_ladder) l11 c11 k11; ⟨f11, _, F, PySem.W.mg_of X G a11, F.binds fun _ _ _ _ _ _ us hl => match us, hl with | [_], _ => rfl⟩
  A_cost_on := let F := fun_mk (st := s_cost_on) l12 c12 k12; ⟨f12, _, F, PySem.W.mg_of X G a12, F.binds fun _ _ _ _ _ _ us hl => match us, hl with | [_, _], _ => rfl⟩
  A_ladder_cost := let F := fun_mk (st := s_ladder_cost) l13 c13 k13; ⟨f13, _, F, PySem.W.mg_of X G a13, F.binds fun _ _ _ _ _ _ us hl => match us, hl with | [_, _], _ => rfl⟩
  A_least_rests := let F := fun_mk (st := s_least_rests) l14 c14 k14; ⟨f14, _, F, PySem.W.mg_of X G a14, F.binds fun _ _ _ _ _ _ us hl => match us, hl with | [_, _], _ => rfl⟩
  A_early_entry := let F := fun_mk (st := s_early_entry) l15 c15 k15; ⟨f15, _, F, PySem.W.mg_of X G a15, F.binds fun _ _ _ _ _ _ us hl => match us, hl with | [_, _, _], _ => rfl⟩
  A_early_ladder := let F := fun_mk (st := s_early_ladder) l16 c16 k16; ⟨f16, _, F, PySem.W.mg_of X G a16, F.binds fun _ _ _ _ _ _ us hl => match us, hl with | [_], _ => rfl⟩
  A_classes_of_rungs := let F := fun_mk (st := s_classes_of_rungs) l17 c17 k17; ⟨f17, _, F, PySem.W.mg_of X G a17, F.binds fun _ _ _ _ _ _ us hl => match us, hl with | [_, _], _ => rfl⟩
  A_least_of_ladder := let F := fun_mk (st := s_least_of_ladder) l18 c18 k18; ⟨f18, _, F, PySem.W.mg_of X G a18, F.binds fun _ _ _ _ _ _ us hl => match us, hl with | [_], _ => rfl⟩
  A_least_ladder := let F := fun_mk (st := s_least_ladder) l19 c19 k19; ⟨f19, _, F, PySem.W.mg_of X G a19, F.binds fun _ _ _ _ _ _ us hl => match us, hl with | [_], _ => rfl⟩
  A_is_least_ladder := let F := fun_mk (st := s_is_least_ladder) l20 c20 k20; ⟨f20, _, F, PySem.W.mg_of X G a20, F.binds fun _ _ _ _ _ _ us hl => match us, hl with | [_], _ => rfl⟩
  A_same_ladders := let F := fun_mk (st := s_same_ladders) l21 c21 k21; ⟨f21, _, F, PySem.W.mg_of X G a21, F.binds fun _ _ _ _ _ _ us hl => match us, hl with | [_, _], _ => rfl⟩
  A_l_bag := let F := fun_mk (st := s_l_bag) l22 c22 k22; ⟨f22, _, F, PySem.W.mg_of X G a22, F.binds fun _ _ _ _ _ _ us hl => match us, hl with | [_], _ => rfl⟩
  A_l_pick := let F := fun_mk (st := s_l_pick) l23 c23 k23; ⟨f23, _, F, PySem.W.mg_of X G a23, F.binds fun _ _ _ _ _ _ us hl => match us, hl with | [_, _], _ => rfl⟩
  A_l_same := let F := fun_mk (st := s_l_same) l24 c24 k24; ⟨f24, _, F, PySem.W.mg_of X G a24, F.binds fun _ _ _ _ _ _ us hl => match us, hl with | [_, _], _ => rfl⟩
  A_l_letters := let F := fun_mk (st := s_l_letters) l25 c25 k25; ⟨f25, _, F, PySem.W.mg_of X G a25, F.binds fun _ _ _ _ _ _ us hl => match us, hl with | [_, _], _ => rfl⟩
  A_l_word := let F := fun_mk (st := s_l_word) l26 c26 k26; ⟨f26, _, F, PySem.W.mg_of X G a26, F.binds fun _ _ _ _ _ _ us hl => match us, hl with | [_, _, _], _ => rfl⟩
  A_l_words := let F := fun_mk (st := s_l_words) l27 c27 k27; ⟨f27, _, F, PySem.W.mg_of X G a27, F.binds fun _ _ _ _ _ _ us hl => match us, hl with | [_, _], _ => rfl⟩
  A_l_ladder := let F := fun_mk (st := s_l_ladder) l28 c28 k28; ⟨f28, _, F, PySem.W.mg_of X G a28, F.binds fun _ _ _ _ _ _ us hl => match us, hl with | [_, _, _], _ => rfl⟩
  A_l_cost := let F := fun_mk (st := s_l_cost) l29 c29 k29; ⟨f29, _, F, PySem.W.mg_of X G a29, F.binds fun _ _ _ _ _ _ us hl => match us, hl with | [_, _], _ => rfl⟩
  A_l_turned := let F := fun_mk (st := s_l_turned) l30 c30 k30; ⟨f30, _, F, PySem.W.mg_of X G a30, F.binds fun _ _ _ _ _ _ us hl => match us, hl with | [_], _ => rfl⟩
  A_l_moved := let F := fun_mk (st := s_l_moved) l31 c31 k31; ⟨f31, _, F, PySem.W.mg_of X G a31, F.binds fun _ _ _ _ _ _ us hl => match us, hl with | [_, _, _], _ => rfl⟩
  A_l_early := let F := fun_mk (st := s_l_early) l32 c32 k32; ⟨f32, _, F, PySem.W.mg_of X G a32, F.binds fun _ _ _ _ _ _ us hl => match us, hl with | [_], _ => rfl⟩
  A_l_told := let F := fun_mk (st := s_l_told) l33 c33 k33; ⟨f33, _, F, PySem.W.mg_of X G a33, F.binds fun _ _ _ _ _ _ us hl => match us, hl with | [_, _, _], _ => rfl⟩
  A_l_doors := let F := fun_mk (st := s_l_doors) l34 c34 k34; ⟨f34, _, F, PySem.W.mg_of X G a34, F.binds fun _ _ _ _ _ _ us hl => match us, hl with | [_, _, _], _ => rfl⟩
  A_law := let F := fun_mk (st := s_law) l35 c35 k35; ⟨f35, _, F, PySem.W.mg_of X G a35, F.binds fun _ _ _ _ _ _ us hl => match us, hl with | [_], _ => rfl⟩
  X_CostError := ⟨C0, PySem.W.mg_of X G xa0, xe0, xk0, xs0, xt0, xc0⟩
  X_BadWord := ⟨C1, PySem.W.mg_of X G xa1, xe1, xk1, xs1, xt1, xc1⟩
  X_BadOther := ⟨C2, PySem.W.mg_of X G xa2, xe2, xk2, xs2, xt2, xc2⟩
  X_Unlike := ⟨C3, PySem.W.mg_of X G xa3, xe3, xk3, xs3, xt3, xc3⟩
  X_BadLadder := ⟨C4, PySem.W.mg_of X G xa4, xe4, xk4, xs4, xt4, xc4⟩
  e_BadWord_BadWord := e1_1
  e_BadWord_BadOther := e1_2
  e_BadWord_Unlike := e1_3
  e_BadWord_BadLadder := e1_4
  e_BadOther_BadWord := e2_1
  e_BadOther_BadOther := e2_2
  e_BadOther_Unlike := e2_3
  e_BadOther_BadLadder := e2_4
  e_Unlike_BadWord := e3_1
  e_Unlike_BadOther := e3_2
  e_Unlike_Unlike := e3_3
  e_Unlike_BadLadder := e3_4
  e_BadLadder_BadWord := e4_1
  e_BadLadder_BadOther := e4_2
  e_BadLadder_Unlike := e4_3
  e_BadLadder_BadLadder := e4_4
  n_isinstance := PySem.W.mg_none_of X G z0
  n_len := PySem.W.mg_none_of X G z1
  n_all := PySem.W.mg_none_of X G z2
  n_min := PySem.W.mg_none_of X G z3
  n_max := PySem.W.mg_none_of X G z4
  n_sorted := PySem.W.mg_none_of X G z5
  n_zip := PySem.W.mg_none_of X G z6
  n_enumerate := PySem.W.mg_none_of X G z7
  n_range := PySem.W.mg_none_of X G z8
  n_int := PySem.W.mg_none_of X G z9
  n_str := PySem.W.mg_none_of X G z10
  n_bool := PySem.W.mg_none_of X G z11
  n_tuple := PySem.W.mg_none_of X G z12
  n_list := PySem.W.mg_none_of X G z13
  n_set := PySem.W.mg_none_of X G z14
  n_dict := PySem.W.mg_none_of X G z15
  tk_SMALL_LETTERS := t0
  v_SMALL_LETTERS := PySem.W.mg_of X G v0
  tk_DIGITS := t1
  v_DIGITS := PySem.W.mg_of X G v1
  tk_LONGEST_NAME := t2
  v_LONGEST_NAME := PySem.W.mg_of X G v2
  tk_MOST_LETTERS := t3
  v_MOST_LETTERS := PySem.W.mg_of X G v3
  tk_LONGEST_WORD := t4
  v_LONGEST_WORD := PySem.W.mg_of X G v4
  tk_MOST_RUNGS := t5
  v_MOST_RUNGS := PySem.W.mg_of X G v5
  tk_MOST_PRICE := t6
  v_MOST_PRICE := PySem.W.mg_of X G v6
end K96

set_option maxRecDepth 100000
set_option maxHeartbeats 2000000
/-! is_int, within, is_row, is_low_name -/
namespace K96
open PySem PySem.Spec PyProof.Rows L2 KD

theorem hu64 {X : Cx} {k : Nat} (hr : Room k X.A) : X.A.units + 64 < cLine := by
  have := hr.un
  omega
/-- a promise by a function on data -/
def spF (K : PySem.W.Frag) (f : List PyData → Option PyData) : Sp := spD K (fun ds => (f ds).isSome = true) (fun ds r => f ds = some r)
theorem spF_len {K : PySem.W.Frag} {f : List PyData → Option PyData} {n : Nat} (hf : ∀ ds, (f ds).isSome = true → ds.length = n) {vs : List V} {H : Hp} {Q : VK} {E : XK} (h : spF K f vs H Q E) : vs.length = n := by
  obtain ⟨ds, hd, hp, _⟩ := h
  rw [hd.length]
  exact hf ds hp
theorem evd_callF {K : PySem.W.Frag} {f : List PyData → Option PyData} {E : XK} {ta : TA} {σ : L2.St} {H : Hp} {ds : List PyData} {r : PyData} (h : EvA K ta σ H ds) (hf : f ds = some r) : EvD K (tCall (spF K f) [] E ta) σ H r :=
  (evp_call h (by rw [hf]; rfl)).imp fun x hx => (Option.some.inj (hf.symm.trans hx)).symm

def notDict : PyData → Bool
  | .dict _ => false
  | _ => true
theorem kit_int : ∀ {d : PyData}, notDict d = true → kitB (tyName d) "int" = some (match d with | .int _ => true | .bool _ => true | _ => false)
  | .none, _ => (by decide +kernel : kitB "NoneType" "int" = some false)
  | .bool _, _ => (by decide +kernel : kitB "bool" "int" = some true)
  | .int _, _ => (by decide +kernel : kitB "int" "int" = some true)
  | .str _, _ => (by decide +kernel : kitB "str" "int" = some false)
  | .list _, _ => (by decide +kernel : kitB "list" "int" = some false)
  | .tuple _, _ => (by decide +kernel : kitB "tuple" "int" = some false)
  | .dict _, h => nomatch h
theorem kit_bool : ∀ {d : PyData}, notDict d = true → kitB (tyName d) "bool" = some (match d with | .bool _ => true | _ => false)
  | .none, _ => (by decide +kernel : kitB "NoneType" "bool" = some false)
  | .bool _, _ => (by decide +kernel : kitB "bool" "bool" = some true)
  | .int _, _ => (by decide +kernel : kitB "int" "bool" = some false)
  | .str _, _ => (by decide +kernel : kitB "str" "bool" = some false)
  | .list _, _ => (by decide +kernel : kitB "list" "bool" = some false)
  | .tuple _, _ => (by decide +kernel : kitB "tuple" "bool" = some false)
  | .dict _, h => nomatch h
theorem kit_str : ∀ {d : PyData}, notDict d = true → kitB (tyName d) "str" = some (match d with | .str _ => true | _ => false)
  | .none, _ => (by decide +kernel : kitB "NoneType" "str" = some false)
  | .bool _, _ => (by decide +kernel : kitB "bool" "str" = some false)
  | .int _, _ => (by decide +kernel : kitB "int" "str" = some false)
  | .str _, _ => (by decide +kernel : kitB "str" "str" = some true)
  | .list _, _ => (by decide +kernel : kitB "list" "str" = some false)
  | .tuple _, _ => (by decide +kernel : kitB "tuple" "str" = some false)
  | .dict _, h => nomatch h
theorem kit_tuple : ∀ {d : PyData}, notDict d = true → kitB (tyName d) "tuple" = some (match d with | .tuple _ => true | _ => false)
  | .none, _ => (by decide +kernel : kitB "NoneType" "tuple" = some false)
  | .bool _, _ => (by decide +kernel : kitB "bool" "tuple" = some false)
  | .int _, _ => (by decide +kernel : kitB "int" "tuple" = some false)
  | .str _, _ => (by decide +kernel : kitB "str" "tuple" = some false)
  | .list _, _ => (by decide +kernel : kitB "list" "tuple" = some false)
  | .tuple _, _ => (by decide +kernel : kitB "tuple" "tuple" = some true)
  | .dict _, h => nomatch h
theorem dq_notDict {K : PySem.W.Frag} {H : Hp} {v : V} {d : PyData} (h : Dq K H v d) : notDict d = true := by cases h <;> rfl

def isIntD : PyData → Bool
  | .int _ => true
  | _ => false
def isRowD (lo hi : Int) : PyData → Bool
  | .tuple ds => decide (lo ≤ (ds.length : Int)) && decide ((ds.length : Int) ≤ hi)
  | _ => false
def withinD (lo hi : Int) : PyData → Bool
  | .int i => decide (lo ≤ i) && decide (i ≤ hi)
  | _ => false
def f_is_int : List PyData → Option PyData
  | [d] => some (.bool (isIntD d))
  | _ => none
def f_within : List PyData → Option PyData
  | [d, .int lo, .int hi] => some (.bool (withinD lo hi d))
  | _ => none
def f_is_row : List PyData → Option PyData
  | [d, .int lo, .int hi] => some (.bool (isRowD lo hi d))
  | _ => none

section
variable {P : Program} {w : World} {K : PySem.W.Frag} {mg : Str → Option Value} {base : Heap}
theorem ok_is_int (T : Txt K mg) : FnOk P w K mg base CX0 1 T.A_is_int.f T.A_is_int.d ["thing"] (spF K f_is_int) := by
  refine T.A_is_int.F.ok sc_is_int (fun vs H Q E h => spF_len (n := 1) (fun ds hp => ?_) h) (fun cdv A outer s H vs Q E hr h => ?_)
  · unfold f_is_int at hp
    split at hp <;> first | rfl | cases hp
  · obtain ⟨ds, hd, hp, q⟩ := h
    refine ⟨_, (pss_one (ps_ret (pe_and (pe_callB call_isi (by rfl) T.n_isinstance (by decide +kernel) (pa_cons (pv 0) (pa_cons (pe_bltn (v := .ty "int") (by rfl) T.n_int (by decide +kernel) rfl) pa_nil))) (pe_one (pe_not (pe_callB call_isi (by rfl) T.n_isinstance (by decide +kernel) (pa_cons (pv 0) (pa_cons (pe_bltn (v := .ty "bool") (by rfl) T.n_bool (by decide +kernel) rfl) pa_nil)))))))), ?_⟩
    obtain ⟨d, rfl⟩ : ∃ d, ds = [d] := by
      unfold f_is_int at hp
      split at hp <;> first | exact ⟨_, rfl⟩ | cases hp
    cases hd with
    | cons h0 hn =>
      cases hn
      have nd := dq_notDict h0
      exact evs_retD (d := .bool (isIntD d)) (evd_is (evd_and (evd_isi (evd_v 0 rfl h0) (kit_int nd)) fun _ => evd_not (evd_isi (evd_v 0 rfl h0) (kit_bool nd))) (by cases d <;> rfl)) fun v H1 s p => q _ v H1 s p rfl
theorem ok_within (T : Txt K mg) : FnOk P w K mg base CX0 2 T.A_within.f T.A_within.d ["thing", "low", "high"] (spF K f_within) := by
  refine T.A_within.F.ok sc_within (fun vs H Q E h => spF_len (n := 3) (fun ds hp => ?_) h) (fun cdv A outer s H vs Q E hr h => ?_)
  · unfold f_within at hp
    split at hp <;> first | rfl | cases hp
  · obtain ⟨ds, hd, hp, q⟩ := h
    refine ⟨_, ((pss_one (ps_ret (pe_and (pe_call (ok_is_int T) (hr.mono (by decide)) (by rfl) T.A_is_int.g T.A_is_int.F.kp T.A_is_int.b .nil pass0 (pa_cons (pv 0) pa_nil)) (pe_one (pe_chain op_le op_le (pv 1) (pv 0) (pv 2))))))), ?_⟩
    obtain ⟨d, lo, hi, rfl⟩ : ∃ d lo hi, ds = [d, .int lo, .int hi] := by
      unfold f_within at hp
      split at hp <;> first | exact ⟨_, _, _, rfl⟩ | cases hp
    obtain ⟨x0, x1, x2, rfl, h0, h1, h2⟩ := hd.three
    have e1 : f_is_int [d] = some (.bool (isIntD d)) := rfl
    cases d with
    | int i => exact evs_retD (d := .bool (withinD lo hi (.int i))) (evd_is (evd_and (evd_callF (eva_cons (evd_v 0 rfl h0) eva_nil) e1) fun _ => evd_chain (evd_v 1 rfl h1) (evd_v 0 rfl h0) rd_lt (fun _ => evd_v 2 rfl h2) fun _ => rd_lt) rfl) fun v H1 s p => q _ v H1 s p rfl
    | _ => exact evs_retD (d := .bool false) (evd_and (b := false) (evd_callF (eva_cons (evd_v 0 rfl h0) eva_nil) e1) fun z => nomatch z) fun v H1 s p => q _ v H1 s p rfl
theorem ok_is_row (T : Txt K mg) : FnOk P w K mg base CX0 1 T.A_is_row.f T.A_is_row.d ["thing", "low", "high"] (spF K f_is_row) := by
  refine T.A_is_row.F.ok sc_is_row (fun vs H Q E h => spF_len (n := 3) (fun ds hp => ?_) h) (fun cdv A outer s H vs Q E hr h => ?_)
  · unfold f_is_row at hp
    split at hp <;> first | rfl | cases hp
  · obtain ⟨ds, hd, hp, q⟩ := h
    refine ⟨_, ((pss_one (ps_ret (pe_and (pe_callB (kIsi (K := K)) (by rfl) T.n_isinstance (by decide +kernel) (pa_cons (pv 0) (pa_cons (pe_bltn (v := .ty "tuple") (by rfl) T.n_tuple (by decide +kernel) rfl) pa_nil))) (pe_one (pe_chain op_le op_le (pv 1) (pe_callB (kLen (K := K)) (by rfl) T.n_len (by decide +kernel) (pa_cons (pv 0) pa_nil)) (pv 2))))))), ?_⟩
    obtain ⟨d, lo, hi, rfl⟩ : ∃ d lo hi, ds = [d, .int lo, .int hi] := by
      unfold f_is_row at hp
      split at hp <;> first | exact ⟨_, _, _, rfl⟩ | cases hp
    obtain ⟨x0, x1, x2, rfl, h0, h1, h2⟩ := hd.three
    have nd := dq_notDict h0
    cases d with
    | tuple ds => exact evs_retD (d := .bool (isRowD lo hi (.tuple ds))) (evd_is (evd_and (evd_isi (evd_v 0 rfl h0) (kit_tuple nd)) fun _ => evd_chain (evd_v 1 rfl h1) (evd_lenT (evd_v 0 rfl h0)) rd_lt (fun _ => evd_v 2 rfl h2) fun _ => rd_lt) rfl) fun v H1 s p => q _ v H1 s p rfl
    | _ => exact evs_retD (d := .bool false) (evd_and (b := false) (evd_isi (evd_v 0 rfl h0) (kit_tuple nd)) fun z => nomatch z) fun v H1 s p => q _ v H1 s p rfl
end
end K96

set_option maxRecDepth 100000
set_option maxHeartbeats 2000000
/-! is_low_name, is_word_over, need_word, need_alike -/
namespace K96
open PySem PySem.Spec PyProof.Rows L2 KD

def small : List Nat := (PySem.Str.ofString "abcdefghijklmnopqrstuvwxyz").cps.toList
def digits : List Nat := (PySem.Str.ofString "0123456789").cps.toList
/-- a low name, told for a text of signs -/
def lowOk (z : Str) : Bool := decide (1 ≤ z.length ∧ z.length ≤ 10) && (match z.cps.toList with
  | c :: _ => decide (c ∈ small)
  | [] => false) && z.cps.toList.all fun c => decide (c ∈ small) || decide (c ∈ digits)
def f_is_low_name : List PyData → Option PyData
  | [.str z] => if lowOk z = true then some (.bool true) else none
  | _ => none
def rInSg : R2 := fun x y H Q => ∃ (c : Nat) (z : Str), x = .str ⟨#[c]⟩ ∧ y = .str z ∧ Q (.bl (decide (c ∈ z.cps.toList))) H
def rNotInSg : R2 := fun x y H Q => ∃ (c : Nat) (z : Str), x = .str ⟨#[c]⟩ ∧ y = .str z ∧ Q (.bl (!decide (c ∈ z.cps.toList))) H
section
variable {P : Program} {w : World} {K : PySem.W.Frag} {mg : Str → Option Value} {base : Heap} {H : Hp} {σ : L2.St} {ta tb : TE}
theorem evd_inSg {c : Nat} {z : Str} (ha : EvD K ta σ H (.str ⟨#[c]⟩)) (hb : EvD K tb σ H (.str z)) : EvD K (tOp rInSg ta tb) σ H (.bool (decide (c ∈ z.cps.toList))) := evd_op ha hb fun H1 s x y p q Q k => by
  cases p; cases q
  exact ⟨c, z, rfl, rfl, k _ H1 (Same.refl H1) (.bl _)⟩
theorem evd_notInSg {c : Nat} {z : Str} (ha : EvD K ta σ H (.str ⟨#[c]⟩)) (hb : EvD K tb σ H (.str z)) : EvD K (tOp rNotInSg ta tb) σ H (.bool (!decide (c ∈ z.cps.toList))) := evd_op ha hb fun H1 s x y p q Q k => by
  cases p; cases q
  exact ⟨c, z, rfl, rfl, k _ H1 (Same.refl H1) (.bl _)⟩
theorem evd_ixS {z : Str} {i : Int} {c : Nat} (ha : EvD K ta σ H (.str z)) (hb : EvD K tb σ H (.int i)) (hl : z.length ≤ sizeLine) (h : atI z.cps.toList i = some c) : EvD K (tOp rIxS ta tb) σ H (.str ⟨#[c]⟩) := evd_op ha hb fun H1 s x y p q Q k => by
  cases p; cases q
  exact ⟨z, i, c, rfl, rfl, hl, h, k _ H1 (Same.refl H1) (.str _)⟩
theorem ok_is_low_name (T : Txt K mg) : FnOk P w K mg base CX0 1 T.A_is_low_name.f T.A_is_low_name.d ["thing"] (spF K f_is_low_name) := by
  refine T.A_is_low_name.F.ok sc_is_low_name (fun vs H Q E h => spF_len (n := 1) (fun ds hp => ?_) h) (fun cdv A outer s H vs Q E hr h => ?_)
  · unfold f_is_low_name at hp
    split at hp <;> first | rfl | cases hp
  · obtain ⟨ds, hd, hp, q⟩ := h
    refine ⟨_, ((pss_cons (ps_if (PW.pt (pw_or (pt_not (pt_val (pe_callB (kIsi (K := K)) (by rfl) T.n_isinstance (by decide +kernel) (pa_cons (pv 0) (pa_cons (pe_bltn (v := .ty "str") (by rfl) T.n_str (by decide +kernel) rfl) pa_nil))))) (pw_or (pt_not (pt_chain op_le op_le pe_int (pe_callB call_len_str (by rfl) T.n_len (by decide +kernel) (pa_cons (pv 0) pa_nil)) (pe_glob (v := .int 10) rfl T.v_LONGEST_NAME ⟨_, rfl⟩))) (pw_or1 (pt_cmpR op_notIn_sign (pe_ix ix_str (pv 0) pe_int (fun _ _ => rfl)) (pe_glob (v := .str (PySem.Str.ofString "abcdefghijklmnopqrstuvwxyz")) rfl T.v_SMALL_LETTERS ⟨_, rfl⟩) rfl))))) (pss_one (ps_ret pe_bl)) pss_nil)
  (pss_one (ps_ret (pe_callB (kAll (K := K)) (by rfl) T.n_all (by decide +kernel) (pa_cons (pe_lc (own := [("sign", 1)]) (g := gName 1) (tt := tYes) rfl sc_is_low_name.nd (pi_str (pv 0)) (blkOk_by (own := [("sign", 1)]) (N := ["thing", "sign"]) (sc := defScope s_is_low_name) (by decide +kernel)) (fun _ _ _ _ _ => (pg_name (i := 1) sc_is_low_name.nd rfl (.inl rfl))) (fun _ _ _ _ _ => pts_nil) (fun _ _ _ _ _ => (pe_or (pe_cmpR op_in_sign (pv 1) (pe_glob (v := .str (PySem.Str.ofString "abcdefghijklmnopqrstuvwxyz")) rfl T.v_SMALL_LETTERS ⟨_, rfl⟩) rfl) (pe_one (pe_cmpR op_in_sign (pv 1) (pe_glob (v := .str (PySem.Str.ofString "0123456789")) rfl T.v_DIGITS ⟨_, rfl⟩) rfl))))) pa_nil)))))), ?_⟩
    obtain ⟨z, rfl, hz⟩ : ∃ z, ds = [.str z] ∧ lowOk z = true := by
      unfold f_is_low_name at hp
      split at hp
      · rename_i z
        by_cases c : lowOk z = true
        · exact ⟨z, rfl, c⟩
        · rw [if_neg c] at hp; cases hp
      · cases hp
    obtain ⟨x0, rfl, h0⟩ := hd.single
    have hz' := hz
    unfold lowOk at hz'
    simp only [Bool.and_eq_true, decide_eq_true_eq] at hz'
    obtain ⟨⟨⟨l1, l2⟩, hc⟩, hall⟩ := hz'
    obtain ⟨c, cs, ec, hc⟩ : ∃ c cs, z.cps.toList = c :: cs ∧ c ∈ small := by
      cases e : z.cps.toList with
      | nil => rw [e] at hc; cases hc
      | cons c cs => rw [e] at hc; exact ⟨c, cs, rfl, of_decide_eq_true hc⟩
    have hzl : z.cps.size = z.length := rfl
    have hl : z.length ≤ sizeLine := Nat.le_trans l2 (by decide)
    have v0 : EvD K (tVar 0) (L2.start ["thing", "sign"] [x0]) H (.str z) := evd_v 0 rfl h0
    refine evs_if (b := false) (evb_is (evb_or (evb_not (evb_B (evd_isi v0 (kit_str rfl)))) fun _ => evb_or (evb_not (evb_test (evd_chain evd_int (evd_lenS v0 hl) rd_lt (fun _ => evd_int) fun _ => rd_lt))) fun _ => evb_test (evd_notInSg (evd_ixS v0 evd_int hl (c := c) (by rw [ec]; exact atI_nat (j := 0) rfl)) evd_str)) ?_) (fun z => nomatch z) fun _ H1 s1 => ?_
    · have a1 : decide ((1 : Int) ≤ (z.length : Nat)) = true := decide_eq_true (by omega)
      have a2 : decide (((z.length : Nat) : Int) ≤ 10) = true := decide_eq_true (by omega)
      have a3 : decide (c ∈ (PySem.Str.ofString "abcdefghijklmnopqrstuvwxyz").cps.toList) = true := decide_eq_true hc
      rw [a1, a2, a3]
      rfl
    · refine evs_retD (d := .bool true) (evd_is (evd_all (bs := z.cps.toList.map fun _ => true) ((evl_map (f := fun _ => .bool true) ((evi_str (v0.mono s1)).same) (by simp [KD.signs]; omega) fun d x H2 hd s2 dx => ?_).is ?_)) ?_) fun v H2 s2 p2 => q _ v H2 (s1.trans s2) p2 (show f_is_low_name [.str z] = _ from if_pos hz)
      · obtain ⟨c, hc, rfl⟩ := List.mem_map.mp hd
        have hc' := List.all_eq_true.mp hall c hc
        refine evd_is (evd_or (evd_inSg (evd_v 1 rfl dx) evd_str) fun _ => evd_inSg (evd_v 1 rfl dx) evd_str) ?_
        show PyData.bool (decide (c ∈ small) || decide (c ∈ digits)) = _
        rw [hc']
      · simp [KD.signs]
      · simp
end
end K96

set_option maxRecDepth 100000
set_option maxHeartbeats 2000000
/-! equal data; letters; is_word_over, need_word, need_alike -/
namespace K96
open PySem PySem.Spec PyProof.Rows L2 KD

mutual
def noB : PyData → Bool
  | .bool _ => false
  | .dict _ => false
  | .list ds => noBAll ds
  | .tuple ds => noBAll ds
  | _ => true
def noBAll : List PyData → Bool
  | [] => true
  | d :: ds => noB d && noBAll ds
end
mutual
theorem eqv_iff : ∀ (d e : PyData), noB d = true → noB e = true → (PyData.eqv d e = true ↔ d = e)
  | .none, e, _, h => by cases e <;> simp [PyData.eqv]
  | .bool _, _, h, _ => by simp [noB] at h
  | .dict _, _, h, _ => by simp [noB] at h
  | .int i, e, _, h => by cases e <;> first | (simp [noB] at h; done) | simp [PyData.eqv]
  | .str x, e, _, h => by cases e <;> simp [PyData.eqv]
  | .list xs, .list ys, h1, h2 => by
    simp only [PyData.eqv, PyData.list.injEq]
    exact eqvAll_iff xs ys (by simpa [noB] using h1) (by simpa [noB] using h2)
  | .tuple xs, .tuple ys, h1, h2 => by
    simp only [PyData.eqv, PyData.tuple.injEq]
    exact eqvAll_iff xs ys (by simpa [noB] using h1) (by simpa [noB] using h2)
  | .list xs, .none, _, _ => by simp [PyData.eqv]
  | .list xs, .bool _, _, _ => by simp [PyData.eqv]
  | .list xs, .int _, _, _ => by simp [PyData.eqv]
  | .list xs, .str _, _, _ => by simp [PyData.eqv]
  | .list xs, .tuple _, _, _ => by simp [PyData.eqv]
  | .list xs, .dict _, _, _ => by simp [PyData.eqv]
  | .tuple xs, .none, _, _ => by simp [PyData.eqv]
  | .tuple xs, .bool _, _, _ => by simp [PyData.eqv]
  | .tuple xs, .int _, _, _ => by simp [PyData.eqv]
  | .tuple xs, .str _, _, _ => by simp [PyData.eqv]
  | .tuple xs, .list _, _, _ => by simp [PyData.eqv]
  | .tuple xs, .dict _, _, _ => by simp [PyData.eqv]
theorem eqvAll_iff : ∀ (xs ys : List PyData), noBAll xs = true → noBAll ys = true → (PyData.eqvAll xs ys = true ↔ xs = ys)
  | [], [], _, _ => by simp [PyData.eqvAll]
  | [], _ :: _, _, _ => by simp [PyData.eqvAll]
  | _ :: _, [], _, _ => by simp [PyData.eqvAll]
  | x :: xs, y :: ys, h1, h2 => by
    simp only [noBAll, Bool.and_eq_true] at h1 h2
    simp only [PyData.eqvAll, Bool.and_eq_true, List.cons.injEq]
    rw [eqv_iff x y h1.1 h2.1, eqvAll_iff xs ys h1.2 h2.2]
end
/-- data that can be compared: no lists, no bools, nested to n at most -/
structure Good (n : Nat) (d : PyData) : Prop where
  flat : flatD d = true
  nob : noB d = true
  lay : d.canLay0 = true
  dep : d.depth ≤ n
theorem flatAll_of : ∀ {ds : List PyData}, (∀ d ∈ ds, flatD d = true) → flatAll ds = true
  | [], _ => rfl
  | d :: ds, h => by
    simp only [flatAll, Bool.and_eq_true]
    exact ⟨h d List.mem_cons_self, flatAll_of fun e he => h e (List.mem_cons_of_mem _ he)⟩
theorem noBAll_of : ∀ {ds : List PyData}, (∀ d ∈ ds, noB d = true) → noBAll ds = true
  | [], _ => rfl
  | d :: ds, h => by
    simp only [noBAll, Bool.and_eq_true]
    exact ⟨h d List.mem_cons_self, noBAll_of fun e he => h e (List.mem_cons_of_mem _ he)⟩
theorem layAll_of : ∀ {ds : List PyData}, (∀ d ∈ ds, d.canLay0 = true) → PyData.canLayAll0 ds = true
  | [], _ => by simp [PyData.canLayAll0]
  | d :: ds, h => by
    simp only [PyData.canLayAll0, Bool.and_eq_true]
    exact ⟨h d List.mem_cons_self, layAll_of fun e he => h e (List.mem_cons_of_mem _ he)⟩
theorem depAll_of {n : Nat} : ∀ {ds : List PyData}, (∀ d ∈ ds, d.depth ≤ n) → PyData.depthAll ds ≤ n
  | [], _ => by simp [PyData.depthAll]
  | d :: ds, h => by
    have h1 := h d List.mem_cons_self
    have h2 := depAll_of (ds := ds) fun e he => h e (List.mem_cons_of_mem _ he)
    simp only [PyData.depthAll]
    omega
theorem Good.tup {n : Nat} {ds : List PyData} (h : ∀ d ∈ ds, Good n d) : Good (n + 1) (.tuple ds) := by
  refine ⟨?_, ?_, ?_, ?_⟩
  · simp only [flatD]; exact flatAll_of fun d hd => (h d hd).flat
  · simp only [noB]; exact noBAll_of fun d hd => (h d hd).nob
  · simp only [PyData.canLay0]; exact layAll_of fun d hd => (h d hd).lay
  · have := depAll_of fun d hd => (h d hd).dep
    simp only [PyData.depth]; omega
theorem Good.mono {n m : Nat} {d : PyData} (h : Good n d) (l : n ≤ m) : Good m d := ⟨h.flat, h.nob, h.lay, Nat.le_trans h.dep l⟩
theorem good_none : Good 0 .none := ⟨rfl, rfl, by simp [PyData.canLay0], by simp [PyData.depth]⟩
theorem good_int (i : Int) : Good 0 (.int i) := ⟨rfl, rfl, by simp [PyData.canLay0], by simp [PyData.depth]⟩
theorem good_str {z : Str} (h : PyData.canLay0 (.str z) = true) : Good 0 (.str z) := ⟨rfl, rfl, h, by simp [PyData.depth]⟩
theorem Good.shaped {n : Nat} {d : PyData} (h : Good n d) (l : n ≤ 64) : SeqAt.shaped d = true := by
  show (d.canLay0 && decide (d.depth ≤ 64)) = true
  rw [h.lay, Bool.true_and]
  exact decide_eq_true (Nat.le_trans h.dep l)
section
variable {K : PySem.W.Frag} {H : Hp} {σ : L2.St} {ta tb : TE} {d e : PyData} {n m : Nat}
theorem evd_eqG {b : Bool} (ha : EvD K ta σ H d) (hb : EvD K tb σ H e) (g1 : Good n d) (g2 : Good m e) (l1 : n ≤ 64) (l2 : m ≤ 64) (hbv : (b = true ↔ d = e)) : EvD K (tOp (rEqD K) ta tb) σ H (.bool b) :=
  evd_is (evd_eqD ha hb g1.flat g2.flat (g1.shaped l1) (g2.shaped l2)) (by
    congr 1
    rw [Bool.eq_iff_iff, hbv]
    exact eqv_iff d e g1.nob g2.nob)
theorem evd_neG {b : Bool} (ha : EvD K ta σ H d) (hb : EvD K tb σ H e) (g1 : Good n d) (g2 : Good m e) (l1 : n ≤ 64) (l2 : m ≤ 64) (hbv : (b = true ↔ d = e)) : EvD K (tOp (rNeD K) ta tb) σ H (.bool (!b)) :=
  evd_is (evd_neD ha hb g1.flat g2.flat (g1.shaped l1) (g2.shaped l2)) (by
    congr 2
    rw [Bool.eq_iff_iff, hbv]
    exact eqv_iff d e g1.nob g2.nob)
end

/-! ### letters -/
structure LetOk (lt : List Str) : Prop where
  pos : 1 ≤ lt.length
  few : lt.length ≤ 6
  low : ∀ z ∈ lt, lowOk z = true
  nd : lt.Nodup
  lay : ∀ z ∈ lt, PyData.canLay0 (.str z) = true
def letD (lt : List Str) : PyData := .tuple (lt.map .str)
theorem good_let {lt : List Str} (h : LetOk lt) : Good 1 (letD lt) := Good.tup fun d hd => by
  obtain ⟨z, hz, rfl⟩ := List.mem_map.mp hd
  exact good_str (h.lay z hz)
theorem letD_inj {a b : List Str} (h : letD a = letD b) : a = b := by
  have h : a.map PyData.str = b.map PyData.str := by simpa [letD] using h
  exact (List.map_inj_right fun x y e => by injection e).mp h
def wordD (n : Nat) : PyData → Bool
  | .tuple ws => decide (ws.length ≤ 1000) && ws.all (withinD 0 ((n : Int) - 1))
  | _ => false

section
variable {P : Program} {w : World} {K : PySem.W.Frag} {mg : Str → Option Value} {base : Heap}
def spLetters (K : PySem.W.Frag) : Sp := spD K (fun ds => ∃ lt, ds = [letD lt] ∧ LetOk lt) (fun _ r => r = .bool true)
theorem ok_are_letters (T : Txt K mg) : FnOk P w K mg base CX0 2 T.A_are_letters.f T.A_are_letters.d ["thing"] (spLetters K) := by
  refine T.A_are_letters.F.ok sc_are_letters (fun vs H Q E h => ?_) (fun cdv A outer s H vs Q E hr h => ?_)
  · obtain ⟨ds, hd, ⟨lt, rfl, _⟩, _⟩ := h
    exact hd.length
  · obtain ⟨ds, hd, ⟨lt, rfl, ok⟩, q⟩ := h
    refine ⟨_, ((pss_cons (ps_if (PW.pt (pw_or (pt_not (pt_val (pe_call (ok_is_row T) (hr.mono (by decide)) (by rfl) T.A_is_row.g T.A_is_row.F.kp T.A_is_row.b .nil pass0 (pa_cons (pv 0) (pa_cons pe_int (pa_cons (pe_glob (v := .int 6) rfl T.v_MOST_LETTERS ⟨_, rfl⟩) pa_nil)))))) (pw_or1 (pt_not (pt_val (pe_callB (kAll (K := K)) (by rfl) T.n_all (by decide +kernel) (pa_cons (pe_lc (own := [("name", 1)]) (g := gName 1) (tt := tYes) rfl sc_are_letters.nd (kiTup (K := K) (pv 0)) (blkOk_by (own := [("name", 1)]) (N := ["thing", "name"]) (sc := defScope s_are_letters) (by decide +kernel)) (fun _ _ _ _ _ => (pg_name (i := 1) sc_are_letters.nd rfl (.inl rfl))) (fun _ _ _ _ _ => pts_nil) (fun _ _ _ _ _ => (pe_call (ok_is_low_name T) (hr.mono (by decide)) (by rfl) T.A_is_low_name.g T.A_is_low_name.F.kp T.A_is_low_name.b .nil pass0 (pa_cons (pv 1) pa_nil)))) pa_nil))))))) (pss_one (ps_ret pe_bl)) pss_nil)
  (pss_one (ps_ret (pe_cmpR op_eq (pe_lenSetS rfl (by rfl) T.n_len (by rfl) T.n_set (pv 0)) (pe_callB (kLen (K := K)) (by rfl) T.n_len (by decide +kernel) (pa_cons (pv 0) pa_nil)) (nomark _)))))), ?_⟩
    obtain ⟨x0, rfl, h0⟩ := hd.single
    have v0 : EvD K (tVar 0) (L2.start ["thing", "name"] [x0]) H (letD lt) := evd_v 0 rfl h0
    have hrow : isRowD 1 6 (letD lt) = true := by
      show (decide ((1 : Int) ≤ ((lt.map PyData.str).length : Nat)) && decide ((((lt.map PyData.str).length : Nat) : Int) ≤ 6)) = true
      rw [List.length_map, decide_eq_true (by have := ok.pos; omega), decide_eq_true (by have := ok.few; omega)]
      rfl
    refine evs_if (b := false) (evb_is (evb_or (evb_not (evb_B (evd_callF (eva_cons v0 (eva_cons evd_int (eva_cons evd_int eva_nil))) rfl))) fun _ => evb_not (evb_B (evd_all (bs := lt.map fun _ => true) ((evl_map (f := fun _ => .bool true) (evi_tup v0).same (by simp; have := ok.few; omega) fun d x H2 hd s2 dx => ?_).is ?_)))) ?_) (fun z => nomatch z) fun _ H1 s1 => ?_
    · obtain ⟨z, hz, rfl⟩ := List.mem_map.mp hd
      exact evd_callF (eva_cons (evd_v 1 rfl dx) eva_nil) (show f_is_low_name [.str z] = _ from if_pos (ok.low z hz))
    · rw [List.map_map, List.map_map]; rfl
    · rw [hrow]; simp
    · obtain ⟨a, xs, rfl, k1, k2⟩ := h0.tupE
      have e := k2.of_strs
      subst e
      have s1' := sqT_kp (.of s1) k1
      have l1 : EvD K (tLenSetS K (tVar 0)) (L2.start ["thing", "name"] [V.ref a]) H1 (.int lt.length) := fun H2 s2 Q q => ⟨_, rfl, a, lt, rfl, sqT_kp (.of s2) s1', ok.nd, by have := ok.few; omega, q _ H2 _ (Same.refl H2) (.int _) rfl⟩
      refine evs_retD (d := .bool true) (evd_is (evd_eq l1 (evd_lenT (v0.mono s1)) (show eqS (.int lt.length) (.int ((lt.map PyData.str).length : Nat)) = some true by rw [List.length_map]; simp [eqS])) rfl) fun v H2 s2 p2 => q _ v H2 (s1.trans s2) p2 rfl
theorem f_int_sub {i j : Int} : True := trivial
def f_is_word_over : List PyData → Option PyData
  | [.tuple ls, d] => some (.bool (wordD ls.length d))
  | _ => none
theorem ok_is_word_over (T : Txt K mg) : FnOk P w K mg base CX0 3 T.A_is_word_over.f T.A_is_word_over.d ["letters", "thing"] (spF K f_is_word_over) := by
  refine T.A_is_word_over.F.ok sc_is_word_over (fun vs H Q E h => spF_len (n := 2) (fun ds hp => ?_) h) (fun cdv A outer s H vs Q E hr h => ?_)
  · unfold f_is_word_over at hp
    split at hp <;> first | rfl | cases hp
  · obtain ⟨ds, hd, hp, q⟩ := h
    refine ⟨_, ((pss_cons (ps_if (pt_not (pt_val (pe_call (ok_is_row T) (hr.mono (by decide)) (by rfl) T.A_is_row.g T.A_is_row.F.kp T.A_is_row.b .nil pass0 (pa_cons (pv 1) (pa_cons pe_int (pa_cons (pe_glob (v := .int 1000) rfl T.v_LONGEST_WORD ⟨_, rfl⟩) pa_nil)))))) (pss_one (ps_ret pe_bl)) pss_nil)
  (pss_one (ps_ret (pe_callB (kAll (K := K)) (by rfl) T.n_all (by decide +kernel) (pa_cons (pe_lc (own := [("letter", 2)]) (g := gName 2) (tt := tYes) rfl sc_is_word_over.nd (kiTup (K := K) (pv 1)) (blkOk_by (own := [("letter", 2)]) (N := ["letters", "thing", "letter"]) (sc := defScope s_is_word_over) (by decide +kernel)) (fun _ _ _ _ _ => (pg_name (i := 2) sc_is_word_over.nd rfl (.inl rfl))) (fun _ _ _ _ _ => pts_nil) (fun _ _ _ _ _ => (pe_call (ok_within T) (hr.mono (by decide)) (by rfl) T.A_within.g T.A_within.F.kp T.A_within.b .nil pass0 (pa_cons (pv 2) (pa_cons pe_int (pa_cons (pe_op op_sub (pe_callB (kLen (K := K)) (by rfl) T.n_len (by decide +kernel) (pa_cons (pv 0) pa_nil)) pe_int) pa_nil)))))) pa_nil)))))), ?_⟩
    obtain ⟨ls, d, rfl⟩ : ∃ ls d, ds = [.tuple ls, d] := by
      unfold f_is_word_over at hp
      split at hp <;> first | exact ⟨_, _, rfl⟩ | cases hp
    obtain ⟨x0, x1, rfl, h0, h1⟩ := hd.two
    have v0 : EvD K (tVar 0) (L2.start ["letters", "thing", "letter"] [x0, x1]) H (.tuple ls) := evd_v 0 rfl h0
    have v1 : EvD K (tVar 1) (L2.start ["letters", "thing", "letter"] [x0, x1]) H d := evd_v 1 rfl h1
    refine evs_if (b := !isRowD 0 1000 d) (evb_not (evb_B (evd_callF (eva_cons v1 (eva_cons evd_int (eva_cons evd_int eva_nil))) rfl))) (fun hb H1 s1 => ?_) fun hb H1 s1 => ?_
    · refine evs_retD (d := .bool false) evd_bl fun v H2 s2 p2 => q _ v H2 (s1.trans s2) p2 ?_
      show some (PyData.bool (wordD ls.length d)) = _
      cases d with
      | tuple ws =>
        have : ¬ ws.length ≤ 1000 := fun z => by
          simp only [isRowD, Bool.not_eq_true', Bool.and_eq_false_iff, decide_eq_false_iff_not] at hb
          omega
        simp [wordD, this]
      | _ => rfl
    · cases d with
      | tuple ws =>
        have lw : ws.length ≤ 1000 := by
          simp only [isRowD, Bool.not_eq_false', Bool.and_eq_true, decide_eq_true_eq] at hb
          omega
        refine evs_retD (d := .bool (ws.all (withinD 0 ((ls.length : Int) - 1)))) (evd_is (evd_all (bs := ws.map (withinD 0 ((ls.length : Int) - 1))) ((evl_map (f := fun d => .bool (withinD 0 ((ls.length : Int) - 1) d)) (evi_tup (v1.mono s1)).same (by omega) fun d x H2 hd s2 dx => ?_).is ?_)) ?_) fun v H2 s2 p2 => q _ v H2 (s1.trans s2) p2 ?_
        · exact evd_callF (eva_cons (evd_v 2 rfl dx) (eva_cons evd_int (eva_cons (evd_ar (evd_lenT (evd_v 0 rfl ((h0.mono s1).mono s2))) evd_int) eva_nil))) rfl
        · rw [List.map_map]; rfl
        · rw [List.all_map]; rfl
        · show some (PyData.bool (wordD ls.length (.tuple ws))) = _
          simp [wordD, lw]
      | _ => cases hb
end
end K96

set_option maxRecDepth 100000
set_option maxHeartbeats 2000000
/-! need_word, need_alike, is_rung, is_ladder, need_ladder -/
namespace K96
open PySem PySem.Spec PyProof.Rows L2 KD
theorem spE_len {K : PySem.W.Frag} {Pre : List PyData → Prop} {Post : List PyData → PyData → Prop} {Err : List PyData → Addr → Prop} {n : Nat} (hf : ∀ ds, Pre ds → ds.length = n) {vs : List V} {H : Hp} {Q : VK} {E : XK} (h : spE K Pre Post Err vs H Q E) : vs.length = n := by
  obtain ⟨ds, hd, hp, _⟩ := h
  rw [hd.length]
  exact hf ds hp
theorem spD_len {K : PySem.W.Frag} {Pre : List PyData → Prop} {Post : List PyData → PyData → Prop} {n : Nat} (hf : ∀ ds, Pre ds → ds.length = n) {vs : List V} {H : Hp} {Q : VK} {E : XK} (h : spD K Pre Post vs H Q E) : vs.length = n := by
  obtain ⟨ds, hd, hp, _⟩ := h
  rw [hd.length]
  exact hf ds hp
/-! ### ladders as data -/
def entOkD (many : Int) : PyData → Bool
  | .none => true
  | .tuple [p, s] => withinD 0 1000000 p && withinD 0 (many - 1) s
  | _ => false
def rungD (ml : Nat) (many : Int) : PyData → Bool
  | .tuple es => decide (es.length = ml) && es.all (entOkD many)
  | _ => false
def tipOkD (d : PyData) : Bool := isNone d || withinD 0 1000000 d
def isLadD : PyData → Bool
  | .tuple [.tuple ls, first, rows, ends] => withinD 0 1000000 first && (match rows with
    | .tuple rs => decide (1 ≤ rs.length ∧ rs.length ≤ 100) && (match ends with
      | .tuple es => decide (es.length = rs.length) && rs.all (rungD ls.length rs.length) && es.all tipOkD
      | _ => false)
    | _ => false)
  | _ => false
/-- what is asked: anything but a tuple of four; or one with letters ahead -/
def LadArg (d : PyData) : Prop := (∃ lt a b c, d = .tuple [letD lt, a, b, c] ∧ LetOk lt) ∨ isRowD 4 4 d = false
theorem not_rung {many : Int} : ∀ {e : PyData}, isNone e = false → isRowD 2 2 e = false → entOkD many e = false
  | .none, h, _ => by cases h
  | .tuple [a, b], _, h => by simp [isRowD] at h
  | .tuple [], _, _ => rfl
  | .tuple [_], _, _ => rfl
  | .tuple (_ :: _ :: _ :: _), _, _ => rfl
  | .bool _, _, _ => rfl
  | .int _, _, _ => rfl
  | .str _, _, _ => rfl
  | .list _, _, _ => rfl
  | .dict _, _, _ => rfl
theorem pair_of : ∀ {e : PyData}, isRowD 2 2 e = true → ∃ a b, e = .tuple [a, b]
  | .tuple ds, h => by
    simp only [isRowD, Bool.and_eq_true, decide_eq_true_eq] at h
    match ds, h with
    | [a, b], _ => exact ⟨a, b, rfl⟩
    | [], h => simp at h
    | [_], h => simp at h
    | _ :: _ :: _ :: r, h => simp at h; omega
section
variable {P : Program} {w : World} {K : PySem.W.Frag} {mg : Str → Option Value} {base : Heap}
def spNeedWord (K : PySem.W.Frag) (C : Addr) : Sp := spE K (fun ds => ∃ ls d, ds = [.tuple ls, d]) (fun ds r => r = .none ∧ ∃ ls d, ds = [.tuple ls, d] ∧ wordD ls.length d = true) (fun ds c => c = C ∧ ∃ ls d, ds = [.tuple ls, d] ∧ wordD ls.length d = false)
theorem ok_need_word (T : Txt K mg) : FnOk P w K mg base (L2.CX P w) 4 T.A_need_word.f T.A_need_word.d ["letters", "word"] (spNeedWord K T.X_BadWord.C) := by
  refine T.A_need_word.F.okX sc_need_word (fun vs H Q E h => spE_len (n := 2) (fun ds hp => ?_) h) (fun cdv A outer s H vs Q E hr h => ?_)
  · obtain ⟨_, _, rfl⟩ := hp; rfl
  · obtain ⟨ds, hd, ⟨ls, d, rfl⟩, q, e⟩ := h
    refine ⟨_, ((pss_one (ps_if (pt_not (pt_val (pe_call (ok_is_word_over T) (hr.mono (by decide)) (by rfl) T.A_is_word_over.g T.A_is_word_over.F.kp T.A_is_word_over.b .nil pass0 (pa_cons (pv 0) (pa_cons (pv 1) pa_nil))))) (pss_one (ps_raise rfl (takes_of rfl rfl rfl rfl) (pmk_own PySem.F.excBase_ValueError T.X_BadWord.ex T.X_BadWord.g T.X_BadWord.k (raises_own T.X_BadWord.sB T.X_BadWord.ty) (by rfl)))) pss_nil))), ?_⟩
    obtain ⟨x0, x1, rfl, h0, h1⟩ := hd.two
    refine evs_if (b := !wordD ls.length d) (evb_not (evb_B (evd_callF (eva_cons (evd_v 0 rfl h0) (eva_cons (evd_v 1 rfl h1) eva_nil)) rfl))) (fun hb H1 s1 => ?_) fun hb H1 s1 => ?_
    · exact e _ _ s1 ⟨rfl, ls, d, rfl, by simpa using hb⟩
    · exact q _ _ _ s1 .non ⟨rfl, ls, d, rfl, by simpa using hb⟩
def spNeedAlike (K : PySem.W.Frag) (C : Addr) : Sp := spE K (fun ds => ∃ a b, ds = [letD a, letD b] ∧ LetOk a ∧ LetOk b) (fun ds r => r = .none ∧ ∃ a, ds = [letD a, letD a]) (fun ds c => c = C ∧ ∃ a b, ds = [letD a, letD b] ∧ a ≠ b)
theorem ok_need_alike (T : Txt K mg) : FnOk P w K mg base (L2.CX P w) 1 T.A_need_alike.f T.A_need_alike.d ["letters", "others"] (spNeedAlike K T.X_Unlike.C) := by
  refine T.A_need_alike.F.okX sc_need_alike (fun vs H Q E h => spE_len (n := 2) (fun ds hp => ?_) h) (fun cdv A outer s H vs Q E hr h => ?_)
  · obtain ⟨_, _, rfl, _⟩ := hp; rfl
  · obtain ⟨ds, hd, ⟨a, b, rfl, oa, ob⟩, q, e⟩ := h
    refine ⟨_, ((pss_one (ps_if (pt_cmpR (kNeD (K := K) (hu64 hr)) (pv 0) (pv 1) (nomark _)) (pss_one (ps_raise rfl (takes_of rfl rfl rfl rfl) (pmk_own PySem.F.excBase_ValueError T.X_Unlike.ex T.X_Unlike.g T.X_Unlike.k (raises_own T.X_Unlike.sB T.X_Unlike.ty) (by rfl)))) pss_nil))), ?_⟩
    obtain ⟨x0, x1, rfl, h0, h1⟩ := hd.two
    refine evs_if (b := !decide (a = b)) (evb_test (evd_neG (evd_v 0 rfl h0) (evd_v 1 rfl h1) (good_let oa) (good_let ob) (by decide) (by decide) (b := decide (a = b)) ?_)) (fun hb H1 s1 => ?_) fun hb H1 s1 => ?_
    · rw [decide_eq_true_eq]
      exact ⟨fun z => by rw [z], letD_inj⟩
    · exact e _ _ s1 ⟨rfl, a, b, rfl, by simpa using hb⟩
    · have hb : a = b := by simpa using hb
      subst hb
      exact q _ _ _ s1 .non ⟨rfl, a, rfl⟩
def f_is_rung : List PyData → Option PyData
  | [d, .int ml, .int many] => if 0 ≤ ml ∧ ml ≤ 100 then some (.bool (rungD ml.toNat many d)) else none
  | _ => none
theorem ok_is_rung (T : Txt K mg) : FnOk P w K mg base CX0 3 T.A_is_rung.f T.A_is_rung.d ["thing", "many_letters", "many"] (spF K f_is_rung) := by
  refine T.A_is_rung.F.ok sc_is_rung (fun vs H Q E h => spF_len (n := 3) (fun ds hp => ?_) h) (fun cdv A outer s H vs Q E hr h => ?_)
  · unfold f_is_rung at hp
    split at hp <;> first | rfl | cases hp
  · obtain ⟨ds, hd, hp, q⟩ := h
    refine ⟨_, ((pss_cons (ps_if (pt_not (pt_val (pe_call (ok_is_row T) (hr.mono (by decide)) (by rfl) T.A_is_row.g T.A_is_row.F.kp T.A_is_row.b .nil pass0 (pa_cons (pv 0) (pa_cons (pv 1) (pa_cons (pv 1) pa_nil)))))) (pss_one (ps_ret pe_bl)) pss_nil)
  (pss_cons (ps_for PassesOwn.never rfl (kiTup (K := K) (pv 0)) (pg_name (i := 3) sc_is_rung.nd rfl (.inl rfl))
    (pss_one (ps_if (PW.pt (pw_and (pt_cmpR op_notN (pv 3) pe_non (nomark _)) (pw_and1 (pt_not (pt_val (pe_call (ok_is_row T) (hr.mono (by decide)) (by rfl) T.A_is_row.g T.A_is_row.F.kp T.A_is_row.b .nil pass0 (pa_cons (pv 3) (pa_cons pe_int (pa_cons pe_int pa_nil))))))))) (pss_one (ps_ret pe_bl)) pss_nil)))
  (pss_cons (ps_setLc (i := 4) (own := [("entry", 3)]) (g := gName 3) rfl sc_is_rung.nd rfl rfl (sw_true rfl rfl rfl (by decide +kernel)) (kiTup (K := K) (pv 0)) (blkOk_by (own := [("entry", 3)]) (N := ["thing", "many_letters", "many", "entry", "told", "price", "state"]) (sc := defScope s_is_rung) (by decide +kernel)) (fun _ _ _ _ _ => (pg_name (i := 3) sc_is_rung.nd rfl (.inl rfl))) (fun _ _ _ _ _ => pts_one (pt_cmpR op_notN (pv 3) pe_non (nomark _))) (fun _ _ _ _ _ => (pv 3)))
  (pss_one (ps_ret (pe_callB (kAll (K := K)) (by rfl) T.n_all (by decide +kernel) (pa_cons (pe_lc (own := [("price", 5), ("state", 6)]) (g := gTup K 2 (gCons (gName 5) (gCons (gName 6) (gNil)))) (tt := tYes) rfl sc_is_rung.nd (kiList (K := K) (pv 4)) (blkOk_by (own := [("price", 5), ("state", 6)]) (N := ["thing", "many_letters", "many", "entry", "told", "price", "state"]) (sc := defScope s_is_rung) (by decide +kernel)) (fun _ _ _ _ _ => (kgTup (K := K) rfl (pgs_cons (pg_name (i := 5) sc_is_rung.nd rfl (.inl rfl)) (pgs_cons (pg_name (i := 6) sc_is_rung.nd rfl (.inl rfl)) pgs_nil)))) (fun _ _ _ _ _ => pts_nil) (fun _ _ _ _ _ => (pe_and (pe_call (ok_within T) (hr.mono (by decide)) (by rfl) T.A_within.g T.A_within.F.kp T.A_within.b .nil pass0 (pa_cons (pv 5) (pa_cons pe_int (pa_cons (pe_glob (v := .int 1000000) rfl T.v_MOST_PRICE ⟨_, rfl⟩) pa_nil)))) (pe_one (pe_call (ok_within T) (hr.mono (by decide)) (by rfl) T.A_within.g T.A_within.F.kp T.A_within.b .nil pass0 (pa_cons (pv 6) (pa_cons pe_int (pa_cons (pe_op op_sub (pv 2) pe_int) pa_nil)))))))) pa_nil)))))))), ?_⟩
    obtain ⟨d, ml, many, rfl, m0, m1⟩ : ∃ d ml many, ds = [d, .int ml, .int many] ∧ 0 ≤ ml ∧ ml ≤ 100 := by
      unfold f_is_rung at hp
      split at hp
      · rename_i d ml many
        by_cases c : 0 ≤ ml ∧ ml ≤ 100
        · exact ⟨d, ml, many, rfl, c.1, c.2⟩
        · rw [if_neg c] at hp; cases hp
      · cases hp
    obtain ⟨x0, x1, x2, rfl, h0, h1, h2⟩ := hd.three
    have q' : ∀ v H', Same H H' → Dq K H' v (.bool (rungD ml.toNat many d)) → Q v H' := fun v H' s p => q _ v H' s p (show f_is_rung [d, .int ml, .int many] = _ from if_pos ⟨m0, m1⟩)
    clear q hp
    refine evs_if (b := !isRowD ml ml d) (evb_not (evb_B (evd_callF (eva_cons (evd_v 0 rfl h0) (eva_cons (evd_v 1 rfl h1) (eva_cons (evd_v 1 rfl h1) eva_nil))) rfl))) (fun hb H1 s1 => ?_) fun hb H1 s1 => ?_
    · refine evs_retD (K := K) (d := .bool false) evd_bl fun v H2 s2 p2 => q' v H2 (s1.trans s2) ?_
      have : rungD ml.toNat many d = false := by
        cases d with
        | tuple es =>
          have : ¬ es.length = ml.toNat := fun z => by
            simp only [isRowD, Bool.not_eq_true', Bool.and_eq_false_iff, decide_eq_false_iff_not] at hb
            omega
          simp [rungD, this]
        | _ => rfl
      rw [this]; exact p2
    · cases d with
      | tuple es =>
        have le : es.length = ml.toNat := by
          simp only [isRowD, Bool.not_eq_false', Bool.and_eq_true, decide_eq_true_eq] at hb
          omega
        have hrung : rungD ml.toNat many (.tuple es) = es.all (entOkD many) := by simp [rungD, le]
        rw [hrung] at q'
        have h0' := h0.mono s1
        have small : es.length ≤ 100000 := by omega
        refine evs_for (evi_tup (evd_v 0 rfl h0')) (fun H2 i σ' H' => ∃ x3, σ' = [some x0, some x1, some x2, x3, none, none, none] ∧ Same H2 H' ∧ ∀ e ∈ es.take i, isNone e = true ∨ isRowD 2 2 e = true)
          (fun H2 i σ' H' _ _ p => ?_) (fun H2 s2 => ⟨none, rfl, Same.refl _, fun e he => by simp at he⟩) (fun H2 i e σ' H' x H'' s2 he p s3 dx => ?_) fun H2 σ' H' s2 p => ?_
        · obtain ⟨_, _, s, _⟩ := p
          exact .of s
        · obtain ⟨x3, rfl, sp, hall⟩ := p
          have v3 : EvD K (tVar 3) [some x0, some x1, some x2, some x, none, none, none] H'' e := evd_v 3 rfl dx
          refine evs_if (b := !isNone e && !isRowD 2 2 e) (evb_and (evb_test (evd_notN v3)) fun _ => evb_not (evb_B (evd_callF (eva_cons v3 (eva_cons evd_int (eva_cons evd_int eva_nil))) rfl))) (fun hb H3 s4 => ?_) fun hb H3 s4 => ?_
          · refine evs_retD (K := K) (d := .bool false) evd_bl fun v H4 s5 p5 => q' v H4 ((((s1.trans s2).trans (sp.trans s3)).trans s4).trans s5) ?_
            have : es.all (entOkD many) = false := by
              rw [List.all_eq_false]
              refine ⟨e, List.mem_of_getElem? he, ?_⟩
              simp only [Bool.and_eq_true, Bool.not_eq_true'] at hb
              have := not_rung hb.1 hb.2 (many := many)
              rw [this]; decide
            rw [this]; exact p5
          · refine ⟨some x, rfl, (sp.trans s3).trans s4, fun e' he' => ?_⟩
            rw [List.take_add_one, he] at he'
            rcases List.mem_append.mp he' with k | k
            · exact hall e' k
            · have : e' = e := by simpa using k
              subst this
              by_cases c : isNone e' = true
              · exact .inl c
              · by_cases c2 : isRowD 2 2 e' = true
                · exact .inr c2
                · exfalso
                  have c1 : isNone e' = false := by simpa using c
                  have c2' : isRowD 2 2 e' = false := by simpa using c2
                  rw [c1, c2'] at hb
                  cases hb
        · obtain ⟨x3, rfl, sp, hall⟩ := p
          rw [List.take_length] at hall
          have sH : Same H H' := (s1.trans s2).trans sp
          have h0'' := h0.mono sH
          refine evs_setL ((evl_lc (i := 3) (f := fun d => if isNone d then none else some d) (evi_tup (evd_v 0 rfl h0'')).same small fun d x H3 hd s4 dx => ?_)) fun p xs H3 hp s4 e4 d4 => ?_
          · have v3 : EvD K (tVar 3) [some x0, some x1, some x2, some x, none, none, none] H3 d := evd_v 3 rfl dx
            cases c : isNone d with
            | true => exact evb_is (evb_test (evd_notN v3)) (by rw [c]; rfl)
            | false => exact ⟨evb_is (evb_test (evd_notN v3)) (by rw [c]; rfl), v3⟩
          · have told : es.filterMap (fun d => if isNone d then none else some d) = es.filter (fun d => !isNone d) := by
              rw [← List.filterMap_eq_filter]
              congr 1
              funext d
              cases h : isNone d <;> simp [Option.guard, h]
            rw [told] at d4
            have hpair : ∀ d ∈ es.filter (fun d => !isNone d), ∃ a b, d = .tuple [a, b] := fun d hd => by
              obtain ⟨hm, hn⟩ := List.mem_filter.mp hd
              rcases hall d hm with k | k
              · rw [k] at hn; cases hn
              · exact pair_of k
            refine evs_retD (d := .bool (es.all (entOkD many))) (evd_is (evd_all (bs := (es.filter (fun d => !isNone d)).map (entOkD many)) ((evl_map2 (i := 5) (j := 6) (f := fun d => .bool (entOkD many d)) (evi_listS (.inl (.inl e4)) d4 (evr_v 4 rfl)) (Nat.le_trans (List.length_filter_le _ _) small) hpair fun a b x y H4 hd s5 da db => ?_).is ?_)) ?_) fun v H4 s5 p5 => q' v H4 ((sH.trans s4).trans s5) p5
            · refine evd_and (evd_callF (eva_cons (evd_v 5 rfl da) (eva_cons evd_int (eva_cons evd_int eva_nil))) rfl) fun _ => evd_callF (eva_cons (evd_v 6 rfl db) (eva_cons evd_int (eva_cons (evd_ar (g := fun i j => i - j) (evd_v 2 rfl (((h2.mono sH).mono s4).mono s5)) evd_int) eva_nil))) rfl
            · rw [List.map_map]; rfl
            · rw [List.all_map, List.all_filter]
              congr 1
              exact List.all_congr rfl fun d => by cases d <;> simp [isNone, entOkD]
      | _ => cases hb
def spIsLadder (K : PySem.W.Frag) : Sp := spD K (fun ds => ∃ d, ds = [d] ∧ LadArg d) (fun ds r => ∃ d, ds = [d] ∧ r = .bool (isLadD d))
theorem row4_of : ∀ {d : PyData}, isRowD 4 4 d = false → isLadD d = false
  | .tuple [a, b, c, e], h => by simp [isRowD] at h
  | .tuple [], _ => rfl
  | .tuple [_], _ => by first | rfl | simp [isLadD]
  | .tuple [_, _], _ => by simp [isLadD]
  | .tuple [_, _, _], _ => by simp [isLadD]
  | .tuple (_ :: _ :: _ :: _ :: _ :: _), _ => by simp [isLadD]
  | .none, _ => rfl
  | .bool _, _ => rfl
  | .int _, _ => rfl
  | .str _, _ => rfl
  | .list _, _ => rfl
  | .dict _, _ => rfl
theorem ok_is_ladder (T : Txt K mg) : FnOk P w K mg base CX0 4 T.A_is_ladder.f T.A_is_ladder.d ["thing"] (spIsLadder K) := by
  refine T.A_is_ladder.F.ok sc_is_ladder (fun vs H Q E h => spD_len (n := 1) (fun ds hp => ?_) h) (fun cdv A outer s H vs Q E hr h => ?_)
  · obtain ⟨_, rfl, _⟩ := hp; rfl
  · obtain ⟨ds, hd, ⟨d, rfl, arg⟩, q⟩ := h
    refine ⟨_, ((pss_cons (ps_if (PW.pt (pw_or (pt_not (pt_val (pe_call (ok_is_row T) (hr.mono (by decide)) (by rfl) T.A_is_row.g T.A_is_row.F.kp T.A_is_row.b .nil pass0 (pa_cons (pv 0) (pa_cons pe_int (pa_cons pe_int pa_nil)))))) (pw_or (pt_not (pt_val (pe_call (ok_are_letters T) (hr.mono (by decide)) (by rfl) T.A_are_letters.g T.A_are_letters.F.kp T.A_are_letters.b .nil pass0 (pa_cons (pe_ix (kIxT (K := K)) (pv 0) pe_int (fun _ _ => rfl)) pa_nil)))) (pw_or1 (pt_not (pt_val (pe_call (ok_within T) (hr.mono (by decide)) (by rfl) T.A_within.g T.A_within.F.kp T.A_within.b .nil pass0 (pa_cons (pe_ix (kIxT (K := K)) (pv 0) pe_int (fun _ _ => rfl)) (pa_cons pe_int (pa_cons (pe_glob (v := .int 1000000) rfl T.v_MOST_PRICE ⟨_, rfl⟩) pa_nil)))))))))) (pss_one (ps_ret pe_bl)) pss_nil)
  (pss_cons (ps_asg (pv 0) (kgTup (K := K) rfl (pgs_cons (pg_name (i := 1) sc_is_ladder.nd rfl (.inr rfl)) (pgs_cons (pg_name (i := 2) sc_is_ladder.nd rfl (.inl rfl)) (pgs_cons (pg_name (i := 3) sc_is_ladder.nd rfl (.inr rfl)) (pgs_cons (pg_name (i := 4) sc_is_ladder.nd rfl (.inl rfl)) pgs_nil))))))
  (pss_cons (ps_if (PW.pt (pw_or (pt_not (pt_val (pe_call (ok_is_row T) (hr.mono (by decide)) (by rfl) T.A_is_row.g T.A_is_row.F.kp T.A_is_row.b .nil pass0 (pa_cons (pv 3) (pa_cons pe_int (pa_cons (pe_glob (v := .int 100) rfl T.v_MOST_RUNGS ⟨_, rfl⟩) pa_nil)))))) (pw_or1 (pt_not (pt_val (pe_call (ok_is_row T) (hr.mono (by decide)) (by rfl) T.A_is_row.g T.A_is_row.F.kp T.A_is_row.b .nil pass0 (pa_cons (pv 4) (pa_cons (pe_callB (kLen (K := K)) (by rfl) T.n_len (by decide +kernel) (pa_cons (pv 3) pa_nil)) (pa_cons (pe_callB (kLen (K := K)) (by rfl) T.n_len (by decide +kernel) (pa_cons (pv 3) pa_nil)) pa_nil))))))))) (pss_one (ps_ret pe_bl)) pss_nil)
  (pss_cons (ps_if (pt_not (pt_val (pe_callB (kAll (K := K)) (by rfl) T.n_all (by decide +kernel) (pa_cons (pe_lc (own := [("row", 6)]) (g := gName 6) (tt := tYes) rfl sc_is_ladder.nd (kiTup (K := K) (pv 3)) (blkOk_by (own := [("row", 6)]) (N := ["thing", "letters", "first", "rows", "ends", "price", "row"]) (sc := defScope s_is_ladder) (by decide +kernel)) (fun _ _ _ _ _ => (pg_name (i := 6) sc_is_ladder.nd rfl (.inl rfl))) (fun _ _ _ _ _ => pts_nil) (fun _ _ _ _ _ => (pe_call (ok_is_rung T) (hr.mono (by decide)) (by rfl) T.A_is_rung.g T.A_is_rung.F.kp T.A_is_rung.b .nil pass0 (pa_cons (pv 6) (pa_cons (pe_callB (kLen (K := K)) (by rfl) T.n_len (by decide +kernel) (pa_cons (pv 1) pa_nil)) (pa_cons (pe_callB (kLen (K := K)) (by rfl) T.n_len (by decide +kernel) (pa_cons (pv 3) pa_nil)) pa_nil)))))) pa_nil)))) (pss_one (ps_ret pe_bl)) pss_nil)
  (pss_one (ps_ret (pe_callB (kAll (K := K)) (by rfl) T.n_all (by decide +kernel) (pa_cons (pe_lc (own := [("price", 5)]) (g := gName 5) (tt := tYes) rfl sc_is_ladder.nd (kiTup (K := K) (pv 4)) (blkOk_by (own := [("price", 5)]) (N := ["thing", "letters", "first", "rows", "ends", "price", "row"]) (sc := defScope s_is_ladder) (by decide +kernel)) (fun _ _ _ _ _ => (pg_name (i := 5) sc_is_ladder.nd rfl (.inl rfl))) (fun _ _ _ _ _ => pts_nil) (fun _ _ _ _ _ => (pe_or (pe_cmpR op_isN (pv 5) pe_non (nomark _)) (pe_one (pe_call (ok_within T) (hr.mono (by decide)) (by rfl) T.A_within.g T.A_within.F.kp T.A_within.b .nil pass0 (pa_cons (pv 5) (pa_cons pe_int (pa_cons (pe_glob (v := .int 1000000) rfl T.v_MOST_PRICE ⟨_, rfl⟩) pa_nil)))))))) pa_nil))))))))), ?_⟩
    obtain ⟨x0, rfl, h0⟩ := hd.single
    have q' : ∀ v H', Same H H' → Dq K H' v (.bool (isLadD d)) → Q v H' := fun v H' s p => q _ v H' s p ⟨d, rfl, rfl⟩
    clear q
    have v0 : EvD K (tVar 0) (L2.start ["thing", "letters", "first", "rows", "ends", "price", "row"] [x0]) H d := evd_v 0 rfl h0
    have no : ∀ H' b, b = false → Same H H' → isLadD d = b → ∀ v H2, Same H' H2 → Dq K H2 v (.bool false) → Q v H2 := fun H' b e s k v H2 s2 p2 => q' v H2 (s.trans s2) (by rw [k, e]; exact p2)
    rcases arg with ⟨lt, first, rows, ends, rfl, ok⟩ | hrow
    · have ll : (lt.map PyData.str).length = lt.length := List.length_map _
      have i0 : (([letD lt, first, rows, ends] : List PyData)[0]? = some (letD lt)) := rfl
      have i1 : (([letD lt, first, rows, ends] : List PyData)[1]? = some first) := rfl
      refine evs_if (b := !withinD 0 1000000 first) (evb_is (evb_or (evb_not (evb_B (evd_callF (eva_cons v0 (eva_cons evd_int (eva_cons evd_int eva_nil))) rfl))) fun _ => evb_or (evb_not (evb_B ((evp_call (eva_cons (evd_ixT v0 (i := 0) evd_int i0) eva_nil) ⟨lt, rfl, ok⟩)))) fun _ => evb_not (evb_B (evd_callF (eva_cons (evd_ixT v0 (i := 1) evd_int i1) (eva_cons evd_int (eva_cons evd_int eva_nil))) rfl))) ?_) (fun hb H1 s1 => ?_) fun hb H1 s1 => ?_
      · simp [isRowD]
      · refine evs_retD (K := K) (d := .bool false) evd_bl (no _ _ rfl s1 ?_)
        simp only [Bool.not_eq_true'] at hb
        simp [isLadD, letD, hb]
      · have hfirst : withinD 0 1000000 first = true := by simpa using hb
        refine evs_tup4 (v0.mono s1) fun u0 u1 u2 u3 H2 s2 k0 k1 k2 k3 => ?_
        have sH : Same H H2 := s1.trans s2
        have w3 : EvD K (tVar 3) [some x0, some u0, some u1, some u2, some u3, none, none] H2 rows := evd_v 3 rfl k2
        have w4 : EvD K (tVar 4) [some x0, some u0, some u1, some u2, some u3, none, none] H2 ends := evd_v 4 rfl k3
        cases hr1 : isRowD 1 100 rows with
        | false =>
          refine evs_if (b := true) (evb_is (evb_or (a := true) (b := true) (evb_is (evb_not (evb_B (evd_callF (eva_cons w3 (eva_cons evd_int (eva_cons evd_int eva_nil))) rfl))) (by rw [hr1]; rfl)) fun z => nomatch z) rfl) (fun _ H3 s3 => ?_) fun z => nomatch z
          refine evs_retD (K := K) (d := .bool false) evd_bl (no _ _ rfl (sH.trans s3) ?_)
          cases rows with
          | tuple rs =>
            have : ¬ (1 ≤ rs.length ∧ rs.length ≤ 100) := fun z => by
              simp only [isRowD, Bool.and_eq_false_iff, decide_eq_false_iff_not] at hr1
              omega
            simp [isLadD, letD, this]
          | _ => simp [isLadD, letD]
        | true =>
          cases rows with
          | tuple rs =>
            have hlen : 1 ≤ rs.length ∧ rs.length ≤ 100 := by
              simp only [isRowD, Bool.and_eq_true, decide_eq_true_eq] at hr1
              omega
            have nrs : rs ≠ [] := fun z => by rw [z] at hlen; simp at hlen
            refine evs_if (b := !isRowD rs.length rs.length ends) (evb_is (evb_or (evb_is (evb_not (evb_B (evd_callF (eva_cons w3 (eva_cons evd_int (eva_cons evd_int eva_nil))) rfl))) (by rw [hr1])) fun _ => evb_not (evb_B (evd_callF (eva_cons w4 (eva_cons (evd_lenT w3) (eva_cons (evd_lenT w3) eva_nil))) rfl))) rfl) (fun hb H3 s3 => ?_) fun hb H3 s3 => ?_
            · refine evs_retD (K := K) (d := .bool false) evd_bl (no _ _ rfl (sH.trans s3) ?_)
              cases ends with
              | tuple es =>
                have : ¬ es.length = rs.length := fun z => by
                  simp only [isRowD, Bool.not_eq_true', Bool.and_eq_false_iff, decide_eq_false_iff_not] at hb
                  omega
                simp [isLadD, letD, this]
              | _ => simp [isLadD, letD, nrs]
            · cases ends with
              | tuple es =>
                have le : es.length = rs.length := by
                  simp only [isRowD, Bool.not_eq_false', Bool.and_eq_true, decide_eq_true_eq] at hb
                  omega
                have hlad : isLadD (.tuple [letD lt, first, .tuple rs, .tuple es]) = (rs.all (rungD lt.length rs.length) && es.all tipOkD) := by
                  simp [isLadD, letD, hfirst, le, hlen.1, hlen.2, nrs]
                rw [hlad] at q'
                have w1' : EvD K (tVar 1) [some x0, some u0, some u1, some u2, some u3, none, none] H3 (letD lt) := evd_v 1 rfl (k0.mono s3)
                refine evs_if (b := !rs.all (rungD lt.length rs.length)) (evb_not (evb_B (evd_is (evd_all (bs := rs.map (rungD lt.length rs.length)) ((evl_map (i := 6) (f := fun d => .bool (rungD lt.length rs.length d)) (evi_tup (w3.mono s3)).same (by omega) fun d x H4 hd s4 dx => ?_).is ?_)) ?_))) (fun hb H4 s4 => ?_) fun hb H4 s4 => ?_
                · refine evd_callF (eva_cons (evd_v 6 rfl dx) (eva_cons (evd_lenT (evd_v 1 rfl ((k0.mono s3).mono s4))) (eva_cons (evd_lenT (evd_v 3 rfl ((k2.mono s3).mono s4))) eva_nil))) ?_
                  show f_is_rung [d, .int ((lt.map PyData.str).length : Nat), .int (rs.length : Nat)] = _
                  rw [ll]
                  refine (if_pos ⟨by omega, by have := ok.few; omega⟩).trans ?_
                  rw [Int.toNat_natCast]
                · rw [List.map_map]; rfl
                · rw [List.all_map]; rfl
                · refine evs_retD (K := K) (d := .bool false) evd_bl fun v H5 s5 p5 => q' v H5 (((sH.trans s3).trans s4).trans s5) ?_
                  have : rs.all (rungD lt.length rs.length) = false := by simpa using hb
                  rw [this]; exact p5
                · have hall : rs.all (rungD lt.length rs.length) = true := by simpa using hb
                  rw [hall, Bool.true_and] at q'
                  refine evs_retD (d := .bool (es.all tipOkD)) (evd_is (evd_all (bs := es.map tipOkD) ((evl_map (i := 5) (f := fun d => .bool (tipOkD d)) (evi_tup ((w4.mono s3).mono s4)).same (by omega) fun d x H5 hd s5 dx => ?_).is ?_)) ?_) fun v H5 s5 p5 => q' v H5 (((sH.trans s3).trans s4).trans s5) p5
                  · exact evd_or (evd_isN (evd_v 5 rfl dx)) fun _ => evd_callF (eva_cons (evd_v 5 rfl dx) (eva_cons evd_int (eva_cons evd_int eva_nil))) rfl
                  · rw [List.map_map]; rfl
                  · rw [List.all_map]; rfl
              | _ => cases hb
          | _ => cases hr1
    · refine evs_if (b := true) (evb_is (evb_or (a := true) (b := true) (evb_is (evb_not (evb_B (evd_callF (eva_cons v0 (eva_cons evd_int (eva_cons evd_int eva_nil))) rfl))) (by rw [hrow]; rfl)) fun z => nomatch z) rfl) (fun _ H1 s1 => ?_) fun z => nomatch z
      exact evs_retD (K := K) (d := .bool false) evd_bl (no _ _ rfl s1 (row4_of hrow))
def spNeedLadder (K : PySem.W.Frag) (C : Addr) : Sp := spE K (fun ds => ∃ d, ds = [d] ∧ LadArg d) (fun ds r => r = .none ∧ ∃ d, ds = [d] ∧ isLadD d = true) (fun ds c => c = C ∧ ∃ d, ds = [d] ∧ isLadD d = false)
theorem ok_need_ladder (T : Txt K mg) : FnOk P w K mg base (L2.CX P w) 5 T.A_need_ladder.f T.A_need_ladder.d ["ladder"] (spNeedLadder K T.X_BadLadder.C) := by
  refine T.A_need_ladder.F.okX sc_need_ladder (fun vs H Q E h => spE_len (n := 1) (fun ds hp => ?_) h) (fun cdv A outer s H vs Q E hr h => ?_)
  · obtain ⟨_, rfl, _⟩ := hp; rfl
  · obtain ⟨ds, hd, ⟨d, rfl, arg⟩, q, e⟩ := h
    refine ⟨_, ((pss_one (ps_if (pt_not (pt_val (pe_call (ok_is_ladder T) (hr.mono (by decide)) (by rfl) T.A_is_ladder.g T.A_is_ladder.F.kp T.A_is_ladder.b .nil pass0 (pa_cons (pv 0) pa_nil)))) (pss_one (ps_raise rfl (takes_of rfl rfl rfl rfl) (pmk_own PySem.F.excBase_ValueError T.X_BadLadder.ex T.X_BadLadder.g T.X_BadLadder.k (raises_own T.X_BadLadder.sB T.X_BadLadder.ty) (by rfl)))) pss_nil))), ?_⟩
    obtain ⟨x0, rfl, h0⟩ := hd.single
    refine evs_if (b := !isLadD d) (evb_not (evb_B ((evp_call (eva_cons (evd_v 0 rfl h0) eva_nil) ⟨d, rfl, arg⟩).imp fun r hr => ?_))) (fun hb H1 s1 => ?_) fun hb H1 s1 => ?_
    · obtain ⟨d', e1, e2⟩ := hr
      cases e1
      exact e2
    · exact e _ _ s1 ⟨rfl, d, rfl, by simpa using hb⟩
    · exact q _ _ _ s1 .non ⟨rfl, d, rfl, by simpa using hb⟩
end
end K96

set_option maxRecDepth 100000
set_option maxHeartbeats 2000000
/-! ladders as data; cost_on, ladder_cost -/
namespace K96
open PySem PySem.Spec PyProof.Rows L2 KD Ladm

def entD : Ent → PyData
  | none => .none
  | some (p, t) => .tuple [.int p, .int (t : Nat)]
def rowD (r : List Ent) : PyData := .tuple (r.map entD)
def rowsD (rows : Rows) : PyData := .tuple (rows.map rowD)
def tipD : Option Int → PyData
  | none => .none
  | some c => .int c
def tipsD (ends : Tips) : PyData := .tuple (ends.map tipD)
def ladD (lt : List Str) (L : Lad) : PyData := .tuple [letD lt, .int L.first, rowsD L.rows, tipsD L.ends]
def wordE (w : List Nat) : PyData := .tuple (w.map fun a => .int (a : Nat))

structure Bnd (B : Int) (L : Lad) : Prop where
  f0 : 0 ≤ L.first
  f1 : L.first ≤ B
  ent : ∀ r ∈ L.rows, ∀ p t, some (p, t) ∈ r → 0 ≤ p ∧ p ≤ B
  tip : ∀ c, some c ∈ L.ends → 0 ≤ c ∧ c ≤ B
structure Valid (lt : List Str) (L : Lad) : Prop where
  ok : LetOk lt
  wf : Wf lt.length L
  few : L.rows.length ≤ 100
  bnd : Bnd 1000000 L
theorem Bnd.mono {B C : Int} {L : Lad} (h : Bnd B L) (l : B ≤ C) : Bnd C L :=
  ⟨h.f0, by have := h.f1; omega, fun r hr p t hm => by have := h.ent r hr p t hm; omega, fun c hc => by have := h.tip c hc; omega⟩

theorem rows_ent {m : Nat} {L : Lad} (w : Wf m L) {s a : Nat} (hs : s < L.rows.length) (ha : a < m) :
    ∃ r, L.rows[s]? = some r ∧ r[a]? = some (ent L.rows s a) ∧ r ∈ L.rows := by
  have e : L.rows[s]? = some L.rows[s] := List.getElem?_eq_getElem hs
  refine ⟨L.rows[s], e, ?_, List.getElem_mem hs⟩
  unfold ent
  rw [e]
  simp only [Option.getD_some]
  have hl : a < L.rows[s].length := by rw [w.row _ (List.getElem_mem hs)]; exact ha
  rw [List.getElem?_eq_getElem hl]
  rfl
theorem isLad_of {lt : List Str} {L : Lad} (v : Valid lt L) : isLadD (ladD lt L) = true := by
  have w := v.wf
  have h1 : withinD 0 1000000 (.int L.first) = true := by
    simp [withinD, v.bnd.f0, v.bnd.f1]
  have h2 : (L.rows.map rowD).all (rungD (lt.map PyData.str).length ((L.rows.map rowD).length : Nat)) = true := by
    rw [List.all_eq_true]
    intro d hd
    obtain ⟨r, hr, rfl⟩ := List.mem_map.mp hd
    obtain ⟨s, hs⟩ := List.mem_iff_getElem?.mp hr
    have hsl := (List.getElem?_eq_some_iff.mp hs).1
    simp only [rungD, rowD, List.length_map, Bool.and_eq_true, decide_eq_true_eq]
    refine ⟨w.row r hr, ?_⟩
    rw [List.all_eq_true]
    intro e he
    obtain ⟨x, hx, rfl⟩ := List.mem_map.mp he
    cases x with
    | none => rfl
    | some pt =>
      obtain ⟨p, t⟩ := pt
      have b := v.bnd.ent r hr p t hx
      obtain ⟨a, ha⟩ := List.mem_iff_getElem?.mp hx
      have ht : t < L.rows.length := w.to s a p t (by unfold ent; rw [hs]; simp only [Option.getD_some]; rw [ha]; rfl)
      simp only [entOkD, entD, withinD, Bool.and_eq_true, decide_eq_true_eq]
      omega
  have h3 : (L.ends.map tipD).all tipOkD = true := by
    rw [List.all_eq_true]
    intro d hd
    obtain ⟨c, hc, rfl⟩ := List.mem_map.mp hd
    cases c with
    | none => rfl
    | some c =>
      have b := v.bnd.tip c hc
      simp only [tipOkD, tipD, isNone, withinD, Bool.false_or, Bool.and_eq_true, decide_eq_true_eq]
      omega
  have h4 := w.pos
  have h5 := w.len
  have h6 := v.few
  simp only [isLadD, ladD, letD, rowsD, tipsD, Bool.and_eq_true, decide_eq_true_eq]
  refine ⟨h1, ⟨?_, ?_⟩, ⟨?_, h2⟩, h3⟩
  · rw [List.length_map]; omega
  · rw [List.length_map]; omega
  · rw [List.length_map, List.length_map]; exact h5
theorem ladArg_of {lt : List Str} {L : Lad} (ok : LetOk lt) : LadArg (ladD lt L) := .inl ⟨lt, _, _, _, rfl, ok⟩
theorem word_of {n : Nat} {w : List Nat} (hl : w.length ≤ 1000) (h : ∀ a ∈ w, a < n) : wordD n (wordE w) = true := by
  simp only [wordD, wordE, List.length_map, Bool.and_eq_true, decide_eq_true_eq]
  refine ⟨hl, ?_⟩
  rw [List.all_eq_true]
  intro d hd
  obtain ⟨a, ha, rfl⟩ := List.mem_map.mp hd
  have := h a ha
  simp only [withinD, Bool.and_eq_true, decide_eq_true_eq]
  omega

section
variable {P : Program} {w : World} {K : PySem.W.Frag} {mg : Str → Option Value} {base : Heap}
def spCostOn (K : PySem.W.Frag) : Sp := spD K (fun ds => ∃ lt L w, ds = [ladD lt L, wordE w] ∧ Wf lt.length L ∧ ∀ a ∈ w, a < lt.length) (fun ds r => ∃ lt L w, ds = [ladD lt L, wordE w] ∧ r = tipD (L.cost w))
theorem ok_cost_on (T : Txt K mg) : FnOk P w K mg base CX0 1 T.A_cost_on.f T.A_cost_on.d ["ladder", "word"] (spCostOn K) := by
  refine T.A_cost_on.F.ok sc_cost_on (fun vs H Q E h => spD_len (n := 2) (fun ds hp => ?_) h) (fun cdv A outer s H vs Q E hr h => ?_)
  · obtain ⟨_, _, _, rfl, _⟩ := hp; rfl
  · obtain ⟨ds, hd, ⟨lt, L, wd, rfl, wf, hw⟩, q⟩ := h
    refine ⟨_, ((pss_cons (ps_asg (pv 0) (kgTup (K := K) rfl (pgs_cons (pg_name (i := 2) sc_cost_on.nd rfl (.inl rfl)) (pgs_cons (pg_name (i := 3) sc_cost_on.nd rfl (.inl rfl)) (pgs_cons (pg_name (i := 4) sc_cost_on.nd rfl (.inl rfl)) (pgs_cons (pg_name (i := 5) sc_cost_on.nd rfl (.inl rfl)) pgs_nil))))))
  (pss_cons (ps_set (i := 6) sc_cost_on.nd rfl (.inl rfl) pe_int)
  (pss_cons (ps_for PassesOwn.never rfl (kiTup (K := K) (pv 1)) (pg_name (i := 7) sc_cost_on.nd rfl (.inl rfl))
    (pss_cons (ps_if (pt_cmpR op_isN (pe_ix (kIxT (K := K)) (pe_ix (kIxT (K := K)) (pv 4) (pv 6) (fun _ _ => rfl)) (pv 7) (fun _ _ => rfl)) pe_non (nomark _)) (pss_one (ps_ret pe_non)) pss_nil)
  (pss_cons (ps_asg (pe_ix (kIxT (K := K)) (pe_ix (kIxT (K := K)) (pv 4) (pv 6) (fun _ _ => rfl)) (pv 7) (fun _ _ => rfl)) (kgTup (K := K) rfl (pgs_cons (pg_name (i := 8) sc_cost_on.nd rfl (.inl rfl)) (pgs_cons (pg_name (i := 6) sc_cost_on.nd rfl (.inl rfl)) pgs_nil))))
  (pss_one (ps_aug (i := 3) sc_cost_on.nd rfl (.inl rfl) (pv 8) ip_add)))))
  (pss_one (ps_ret (pe_ifExp (pt_cmpR op_isN (pe_ix (kIxT (K := K)) (pv 5) (pv 6) (fun _ _ => rfl)) pe_non (nomark _)) pe_non (pe_op op_add (pv 3) (pe_ix (kIxT (K := K)) (pv 5) (pv 6) (fun _ _ => rfl)))))))))), ?_⟩
    obtain ⟨x0, x1, rfl, h0, h1⟩ := hd.two
    have q' : ∀ v H', Same H H' → Dq K H' v (tipD (L.cost wd)) → Q v H' := fun v H' s p => q _ v H' s p ⟨lt, L, wd, rfl, rfl⟩
    clear q
    refine evq_tup4 (evd_v 0 rfl h0) fun u2 u3 u4 u5 H1 s1 k2 k3 k4 k5 => ?_
    cases k3
    refine evq_setD (K := K) (d := .int 0) evd_int fun u6 H2 s2 p6 => ?_
    cases p6
    have s02 := s1.trans s2
    refine evq_for (evi_tup (evd_v 1 rfl (h1.mono s02))) (fun H3 i σ' H' => ∃ (x7 x8 : Option V) (st : Nat) (tot : Int), σ' = [some x0, some x1, some u2, some (.int tot), some u4, some u5, some (.int (st : Nat)), x7, x8] ∧ st < L.rows.length ∧ Same H3 H' ∧
      L.cost wd = (run (ent L.rows) (tip L.ends) st (wd.drop i)).map (tot + ·)) (fun H3 i σ' H' _ _ p => ?_) (fun H3 s3 => ⟨none, none, 0, L.first, rfl, wf.pos, Same.refl _, rfl⟩) (fun H3 i d σ' H' x H'' s3 hi p s4 dx => ?_) fun H3 σ' H' s3 p => ?_
    · obtain ⟨_, _, _, _, _, _, s, _⟩ := p
      exact .of s
    · obtain ⟨x7, x8, st, tot, rfl, lst, s5, inv⟩ := p
      rw [List.getElem?_map] at hi
      obtain ⟨a, ha, rfl⟩ : ∃ a, wd[i]? = some a ∧ d = .int (a : Nat) := by
        cases e : wd[i]? with
        | none => rw [e] at hi; cases hi
        | some a => rw [e] at hi; exact ⟨a, rfl, (Option.some.inj hi).symm⟩
      cases dx
      have hal : a < lt.length := hw a (List.mem_of_getElem? ha)
      obtain ⟨r, hr1, hr2, hr3⟩ := rows_ent wf lst hal
      have sH := s02.trans (s3.trans (s5.trans s4))
      have hdrop : wd.drop i = a :: wd.drop (i + 1) := by
        have hil := (List.getElem?_eq_some_iff.mp ha).1
        rw [List.drop_eq_getElem_cons hil]
        congr 1
        rw [List.getElem?_eq_getElem hil] at ha
        exact Option.some.inj ha
      have k4' := k4.mono (s2.trans (s3.trans (s5.trans s4)))
      have ev : EvD K (tOp (rIxT K) (tOp (rIxT K) (tVar 4) (tVar 6)) (tVar 7)) [some x0, some x1, some u2, some (.int tot), some u4, some u5, some (.int (st : Nat)), some (.int (a : Nat)), x8] H'' (entD (ent L.rows st a)) :=
        evd_ixT (i := a) (evd_ixT (i := st) (ds := L.rows.map rowD) (evd_v 4 rfl k4') (evd_v 6 rfl (.int _)) (f := .tuple (r.map entD)) (by rw [List.getElem?_map, hr1]; rfl)) (evd_v 7 rfl (.int _)) (by rw [List.getElem?_map, hr2]; rfl)
      cases e : ent L.rows st a with
      | none =>
        rw [e] at ev
        refine evq_ifn (b := true) (evb_test (evd_isN ev)) (fun _ H4 s6 => ?_) fun z => nomatch z
        refine evs_retD (K := K) (d := .none) evd_non fun v H5 s7 p7 => q' v H5 ((sH.trans s6).trans s7) ?_
        rw [inv, hdrop, run_none e]
        exact p7
      | some pt =>
        obtain ⟨pr, t⟩ := pt
        rw [e] at ev
        refine evq_ifn (b := false) (evb_test (evd_isN ev)) (fun z => nomatch z) fun _ H4 s6 => ?_
        refine evq_tup2 (ev.mono s6) fun y z H5 s7 ky kz => ?_
        cases ky
        cases kz
        refine evs_aug (K := K) rfl (evd_v 8 rfl (.int _)) fun H6 s8 => ?_
        refine ⟨some (.int (a : Nat)), some (.int pr), t, tot + pr, rfl, wf.to st a pr t e, (((s5.trans s4).trans s6).trans s7).trans s8, ?_⟩
        rw [inv, hdrop, run_some e, Option.map_map]
        congr 1
        funext c
        show tot + (pr + c) = tot + pr + c
        omega
    · obtain ⟨x7, x8, st, tot, rfl, lst, s5, inv⟩ := p
      have sH := s02.trans (s3.trans s5)
      have k5' := k5.mono (s2.trans (s3.trans s5))
      have hel : st < L.ends.length := by rw [wf.len]; exact lst
      rw [List.length_map, List.drop_length, run_nil] at inv
      have et : tip L.ends st = L.ends[st] := by unfold tip; rw [List.getElem?_eq_getElem hel]; rfl
      have ev : ∀ H2, Same H' H2 → EvD K (tOp (rIxT K) (tVar 5) (tVar 6)) [some x0, some x1, some u2, some (.int tot), some u4, some u5, some (.int (st : Nat)), x7, x8] H2 (tipD (tip L.ends st)) := fun H2 s =>
        evd_ixT (i := st) (ds := L.ends.map tipD) (evd_v 5 rfl (k5'.mono s)) (evd_v 6 rfl (.int _)) (by rw [List.getElem?_map, List.getElem?_eq_getElem hel, et]; rfl)
      refine evs_ret (P := fun r => r = tipD (L.cost wd)) (evp_if (b := isNone (tipD (tip L.ends st))) (evb_test (evd_isN (ev H' (Same.refl _)))) (fun hb => ?_) fun hb => ?_) fun v H6 r s6 p6 e6 => q' v H6 (sH.trans s6) (e6 ▸ p6)
      · cases k : tip L.ends st with
        | none =>
          rw [inv, k]
          exact evd_non
        | some c => rw [k] at hb; cases hb
      · cases k : tip L.ends st with
        | none => rw [k] at hb; cases hb
        | some c =>
          have e2 := ev H' (Same.refl _)
          rw [k] at e2
          rw [inv, k]
          exact evd_ar (evd_v 3 rfl (.int _)) e2
theorem evq_dropE {H : Hp} {σ : L2.St} {D : Ends} {u : TS} {Pre : List PyData → Prop} {Post : List PyData → PyData → Prop} {Err : List PyData → Addr → Prop} {E : XK} {ta : TA} {ds : List PyData} (h : EvA K ta σ H ds) (hp : Pre ds)
    (q : ∀ H1 r, Same H H1 → Post ds r → u D σ H1) (e : ∀ C H1, Same H H1 → Err ds C → E (.ref C) none H1) : tSeq (tDrop (tCall (spE K Pre Post Err) [] E ta)) u D σ H :=
  h H (Same.refl H) _ fun vs H1 s1 p1 => ⟨ds, by rw [List.append_nil]; exact p1, hp, fun r v H2 s2 _ k => q H2 r (s1.trans s2) k, fun C H2 s2 k => e C H2 (s1.trans s2) k⟩
theorem ladD_inj {a b : List Str} {L M : Lad} (h : ladD a L = ladD b M) : a = b ∧ L = M := by
  simp only [ladD, PyData.tuple.injEq, List.cons.injEq, PyData.int.injEq, and_true] at h
  obtain ⟨h1, h2, h3, h4⟩ := h
  refine ⟨letD_inj h1, ?_⟩
  have entI : ∀ x y : Ent, entD x = entD y → x = y := fun x y e => by
    cases x with
    | none => cases y with
      | none => rfl
      | some y => cases e
    | some x =>
      obtain ⟨p, t⟩ := x
      cases y with
      | none => cases e
      | some y =>
        obtain ⟨p', t'⟩ := y
        simp only [entD, PyData.tuple.injEq, List.cons.injEq, PyData.int.injEq, and_true] at e
        obtain ⟨rfl, e2⟩ := e
        have : t = t' := by omega
        rw [this]
  have rowI : ∀ x y : List Ent, rowD x = rowD y → x = y := fun x y e => by
    simp only [rowD, PyData.tuple.injEq] at e
    exact (List.map_inj_right entI).mp e
  have tipI : ∀ x y : Option Int, tipD x = tipD y → x = y := fun x y e => by
    cases x <;> cases y <;> first | rfl | (cases e; done) | (cases e; rfl)
  simp only [rowsD, tipsD, PyData.tuple.injEq] at h3 h4
  have r := (List.map_inj_right rowI).mp h3
  have t := (List.map_inj_right tipI).mp h4
  obtain ⟨f, r1, t1⟩ := L
  obtain ⟨f', r2, t2⟩ := M
  simp only at h2 r t
  rw [h2, r, t]
theorem wordE_inj {a b : List Nat} (h : wordE a = wordE b) : a = b := by
  simp only [wordE, PyData.tuple.injEq] at h
  exact (List.map_inj_right fun x y e => by injection e with e; omega).mp h
/-- the arguments of ladder_cost, as they come -/
inductive LcArg : PyData → PyData → Prop
  | good {lt : List Str} {L : Lad} {w : List Nat} (v : Valid lt L) (hl : w.length ≤ 1000) (hw : ∀ a ∈ w, a < lt.length) : LcArg (ladD lt L) (wordE w)
  | badL {d x : PyData} (a : LadArg d) (n : isLadD d = false) : LcArg d x
  | badW {lt : List Str} {L : Lad} {x : PyData} (v : Valid lt L) (n : wordD lt.length x = false) : LcArg (ladD lt L) x
def spLadderCost (K : PySem.W.Frag) (CL CW : Addr) : Sp := spE K (fun ds => ∃ d x, ds = [d, x] ∧ LcArg d x) (fun ds r => ∃ lt L w, ds = [ladD lt L, wordE w] ∧ r = tipD (L.cost w) ∧ isLadD (ladD lt L) = true ∧ wordD lt.length (wordE w) = true)
  (fun ds C => (C = CL ∧ ∃ d x, ds = [d, x] ∧ isLadD d = false) ∨ (C = CW ∧ ∃ lt L x, ds = [ladD lt L, x] ∧ Valid lt L ∧ wordD lt.length x = false))
theorem ok_ladder_cost (T : Txt K mg) : FnOk P w K mg base (L2.CX P w) 6 T.A_ladder_cost.f T.A_ladder_cost.d ["ladder", "word"] (spLadderCost K T.X_BadLadder.C T.X_BadWord.C) := by
  refine T.A_ladder_cost.F.okX sc_ladder_cost (fun vs H Q E h => spE_len (n := 2) (fun ds hp => ?_) h) (fun cdv A outer s H vs Q E hr h => ?_)
  · obtain ⟨_, _, rfl, _⟩ := hp; rfl
  · obtain ⟨ds, hd, ⟨d, x, rfl, arg⟩, q, e⟩ := h
    refine ⟨_, ((pss_cons (ps_expr (pe_call (ok_need_ladder T) (hr.mono (by decide)) (by rfl) T.A_need_ladder.g T.A_need_ladder.F.kp T.A_need_ladder.b .nil (passes_call (takes_of rfl rfl rfl rfl) (fun _ _ _ _ h => h)) (pa_cons (pv 0) pa_nil)))
  (pss_cons (ps_expr (pe_call (ok_need_word T) (hr.mono (by decide)) (by rfl) T.A_need_word.g T.A_need_word.F.kp T.A_need_word.b .nil (passes_call (takes_of rfl rfl rfl rfl) (fun _ _ _ _ h => h)) (pa_cons (pe_ix (kIxT (K := K)) (pv 0) pe_int (fun _ _ => rfl)) (pa_cons (pv 1) pa_nil))))
  (pss_one (ps_ret (pe_call (ok_cost_on T) (hr.mono (by decide)) (by rfl) T.A_cost_on.g T.A_cost_on.F.kp T.A_cost_on.b .nil pass0 (pa_cons (pv 0) (pa_cons (pv 1) pa_nil)))))))), ?_⟩
    obtain ⟨x0, x1, rfl, h0, h1⟩ := hd.two
    have la : LadArg d := by
      cases arg with
      | good v _ _ => exact ladArg_of v.ok
      | badL a _ => exact a
      | badW v _ => exact ladArg_of v.ok
    refine evq_dropE (eva_cons (evd_v 0 rfl h0) eva_nil) ⟨d, rfl, la⟩ (fun H1 r s1 p1 => ?_) fun C H1 s1 z => ?_
    · obtain ⟨_, d', e1, yes⟩ := p1
      cases e1
      have key : ∀ lt L, d = ladD lt L → Valid lt L → (wordD lt.length x = true → ∃ w, x = wordE w ∧ ∀ a ∈ w, a < lt.length) → tSeq (tDrop (tCall (spNeedWord K T.X_BadWord.C) [] E (tCons (tOp (rIxT K) (tVar 0) (tC (.int 0))) (tCons (tVar 1) tNil))))
          (tRet (tCall (spCostOn K) [] E0 (tCons (tVar 0) (tCons (tVar 1) tNil)))) { nx := fun _ H' => Q .non H', rt := Q } (L2.start ["ladder", "word"] [x0, x1]) H1 := fun lt L ed v hwd => by
        subst ed
        refine evq_dropE (eva_cons (evd_ixT (i := 0) (evd_v 0 rfl (h0.mono s1)) evd_int rfl) (eva_cons (evd_v 1 rfl (h1.mono s1)) eva_nil)) ⟨_, x, rfl⟩ (fun H2 r2 s2 p2 => ?_) fun C H2 s2 z => ?_
        · obtain ⟨_, ls, x', e1, yes2⟩ := p2
          cases e1
          rw [List.length_map] at yes2
          obtain ⟨wd, rfl, hw⟩ := hwd yes2
          refine evs_ret (evp_call (eva_cons (evd_v 0 rfl ((h0.mono s1).mono s2)) (eva_cons (evd_v 1 rfl ((h1.mono s1).mono s2)) eva_nil)) ⟨lt, L, wd, rfl, v.wf, hw⟩) fun u H3 r3 s3 p3 e3 => by
            obtain ⟨lt', L', w', e1, e2⟩ := e3
            have h1 : ladD lt L = ladD lt' L' := (List.cons.inj e1).1
            have h2 : wordE wd = wordE w' := (List.cons.inj (List.cons.inj e1).2).1
            refine q r3 u H3 ((s1.trans s2).trans s3) p3 ⟨lt', L', w', e1, e2, by rw [← h1]; exact yes, ?_⟩
            rw [← h2, ← (ladD_inj h1).1]
            exact yes2
        · obtain ⟨rfl, ls, x', e1, no⟩ := z
          cases e1
          rw [List.length_map] at no
          exact e _ _ (s1.trans s2) (.inr ⟨rfl, lt, L, x, rfl, v, no⟩)
      cases arg with
      | good v hl hw => exact key _ _ rfl v fun _ => ⟨_, rfl, hw⟩
      | badL a no => rw [no] at yes; cases yes
      | badW v no => exact key _ _ rfl v fun z => by rw [no] at z; cases z
    · obtain ⟨rfl, d', e1, no⟩ := z
      cases e1
      exact e _ _ s1 (.inl ⟨rfl, d, x, rfl, no⟩)
end
end K96

set_option maxRecDepth 100000
set_option maxHeartbeats 2000000
/-! Rules that lacked: enumerate(tuple), dict(zip(list, list)). -/
namespace KD
open PySem PySem.Spec PyProof.Rows L2
open PySem.Sem (wp)
open AutoSeq1 (wpAny_loadPart')

/-! ### enumerate of a tuple -/
theorem drawsT {prog : Program} {w : World} {A : Around} (hh : A.handled = none) (it l : Addr) (hne : l ≠ it) (items : Array Value) :
    Draws prog w A it [it, l] items.size (fun i v => items[i]? = some v) (fun i h => h.IsTupleIter it l i ∧ h.IsTuple l items) where
  live := fun _ _ st => let ⟨o, ho, _⟩ := st.1; ⟨o, ho⟩
  frame := fun _ _ _ ⟨s1, s2⟩ hk => ⟨s1.at fun o e => hk it (by simp) o e, s2.at fun o e => hk l (by simp) o e⟩
  item := fun i s Q E hi ⟨s1, s2⟩ hQ =>
    RZ.nextOf_tuple_item s1 s2 (x := items[i]) (by simp [hi]) fun h' t1 t2 => hQ _ h' s.toks (by simp [hi]) ⟨t1, s2.extBut t2.extBut hne⟩ t2
  done := fun s Q E ⟨s1, s2⟩ hE => RZ.nextOf_tuple_end hh s1 s2 (by simp) hE
theorem meets_enumT (l : Addr) (items : Array Value) (n : Nat) (dct : Option Addr) (sl : Array (Option Value)) :
    Meets (Builtin.«enumerate.__new__» ⟨[.type "enumerate", .ref l], []⟩) (fun _ R s => s.heap.get? l = some { cls := .type "tuple", dict := dct, data := .seq items n, slots := sl } ∧
      R (.ok (.ret (.ref (s.heap.push { cls := .type "tuple_iterator", data := .fields #[.ref l, .int 0 0] }).objs.size)))
        { s with heap := (s.heap.push { cls := .type "tuple_iterator", data := .fields #[.ref l, .int 0 0] }).push { cls := .type "enumerate", data := .fields #[.none, .bool false, .ref s.heap.objs.size, rawInt 0, .none, .none] } }) :=
  .of_wp fun prog w A R s h => by
    obtain ⟨hp, g, d, tk, os⟩ := s
    have hl := h.1
    have hq := h.2
    have z1 := sub_enumerate
    have hT : Heap.IsTuple (Shared.heap ⟨hp, g, d, tk, os⟩) l items := ⟨_, hl, rfl, n, rfl⟩
    wp_walk using wpAny_loadPart' hl
    refine wpAny_stack_any fun st => wpAny_pure ?_
    split
    · rename_i c _ _ _ _ _
      cases (c == Value.type "enumerate") <;> (wp_walk using wpAny_loadPart' hl, wpAny_pyIter_tuple hT; exact ⟨_, rfl, hq⟩)
    · wp_walk using wpAny_loadPart' hl, wpAny_pyIter_tuple hT
      exact ⟨_, rfl, hq⟩
theorem call_enumT {prog : Program} {w : World} {A : Around} {E : Value → Shared → Prop} {s : Shared} {l : Addr} {items : Array Value} {Q : Value → Shared → Prop} (hL : s.heap.IsTuple l items)
    (h : ∀ h', IsEnum h' (s.heap.objs.size + 1) s.heap.objs.size 0 .none → h'.IsTupleIter s.heap.objs.size l 0 → (∀ b o, s.heap.get? b = some o → h'.get? b = some o) → Q (.ref (s.heap.objs.size + 1)) { s with heap := h' }) :
    wpAny (model prog w) A (call (.type "enumerate") [.ref l]) Q E s := by
  obtain ⟨⟨c, dct, dt, sl⟩, hl, hc, n, hd⟩ := hL
  have hc' : c = .type "tuple" := hc
  have hd' : dt = .seq items n := hd
  subst hc' hd'
  refine callType_new F.called_enumerate (by decide) (F.typeCall_enumerate_1 _) (F.newCall_enumerate_1 _) (fun obj => F.args_object_init_2 obj _) F.entry_enumerate_new (meets_enumT l items n dct sl) ⟨hl, ?_⟩
  have hz : (s.heap.push { cls := .type "tuple_iterator", data := .fields #[.ref l, .int 0 0] }).objs.size = s.heap.objs.size + 1 := Heap.size_push ..
  show _ ∧ _
  rw [hz]
  have he : IsEnum ((s.heap.push { cls := .type "tuple_iterator", data := .fields #[.ref l, .int 0 0] }).push
      { cls := .type "enumerate", data := .fields #[.none, .bool false, .ref s.heap.objs.size, rawInt 0, .none, .none] }) (s.heap.objs.size + 1) s.heap.objs.size 0 .none := by
    have q := Heap.get?_push_size (s.heap.push { cls := .type "tuple_iterator", data := .fields #[.ref l, .int 0 0] }) (o := { cls := .type "enumerate", data := .fields #[.none, .bool false, .ref s.heap.objs.size, rawInt 0, .none, .none] }) rfl
    rw [hz] at q
    exact q
  exact ⟨⟨_, he, rfl⟩, h _ he ⟨_, Heap.get?_push_of_some _ (Heap.get?_push_size _ rfl), rfl, rfl⟩ fun b o x => Heap.get?_push_of_some _ (Heap.get?_push_of_some _ x)⟩
/-- the tuple at a, each item in a new pair with its number -/
def IteT (K : PySem.W.Frag) (a : Addr) : It :=
  ⟨fun i H => ∃ (xs : List V) (x : V), SqT K H a xs ∧ xs[i]? = some x, fun i H v H' => ∃ T x, v = .ref T ∧ H T = none ∧ H' = upd H T (.tup [.int (i : Nat), x]) ∧ ∀ xs, SqT K H a xs → xs[i]? = some x, fun i H => ∃ xs : List V, SqT K H a xs ∧ xs.length ≤ i⟩
theorem turn_enumT {P : Program} {w : World} {K : PySem.W.Frag} {elts : List Expr} {kk : Nat} {tpos : Pos} (a e it : Addr) (hai : a ≠ it) (hae : a ≠ e) :
    Turn P w K (.Tuple elts kk tpos) (IteT K a) [e, it] e (fun i h => (∃ old, IsEnum h e it ((i : Nat) : Int) old) ∧ h.IsTupleIter it a i ∧ e ≠ it) where
  mem := by simp
  obj := fun i h ⟨⟨old, he⟩, ⟨o, ho, hc, hd⟩, _⟩ b hb => by
    rcases (show b = e ∨ b = it by simpa using hb) with z | z
    · rw [z]; exact ⟨_, he, fun v q => nomatch q⟩
    · rw [z]; exact ⟨o, ho, fun v q => by rw [hd] at q; cases q⟩
  keep := fun i h h' ⟨⟨old, he⟩, hi, hne⟩ k => ⟨⟨old, k e (by simp) _ he⟩, hi.at fun o q => k it (by simp) o q, hne⟩
  item := by
    intro X hP hw hK hc i pins s σ H E I hf ⟨⟨old, he⟩, hit, hne⟩ hg
    subst hP hw hK
    obtain ⟨xs, x, hq, hx⟩ := hg
    obtain ⟨its, rv, p, hz⟩ := I.tuple hq
    obtain ⟨u, hu, ru⟩ := rv.get hx
    have hel : e < s.heap.objs.size := Heap.lt_size he
    have hil : it < s.heap.objs.size := let ⟨_, q, _⟩ := hit; Heap.lt_size q
    have hsz : its.toArray.size = xs.length := by rw [List.size_toArray, rv.length]
    refine wpAny_pyNext_enum_itemD (drawsT (by show X.A.in1.handled = none; exact I.ok.hd hc) it a hai its.toArray) he ⟨hit, p⟩ (by rw [hsz]; exact (List.getElem?_eq_some_iff.mp hx).1) hne (by simp; exact ⟨hne, Ne.symm hae⟩) fun y h' tk hy ho hst hT _ hk => ?_
    have ey : y = u := by
      have q : its.toArray[i]? = some u := by simpa using hu
      exact Option.some.inj (hy.symm.trans q)
    subst ey
    refine ⟨_, rfl, wpAny_letOwnedTupleGo_enum (s := { s with heap := h', toks := tk + 1 }) ho fun h'' he' sb => ?_⟩
    have hT2 : h''.get? s.heap.objs.size = some { cls := .type "tuple", data := .seq #[.int i tk, y] } := (sb.2 _ (Nat.ne_of_gt hel)).trans hT
    have new : ObjOk X.prog X.w (upd H s.heap.objs.size (.tup [.int (i : Nat), x])) h'' s.heap.objs.size (.tup [.int (i : Nat), x]) :=
      ⟨by show 2 ≤ sizeLine; decide, [.int i tk, y], .cons ⟨_, rfl⟩ (.cons ru .nil), ⟨_, hT2, rfl, _, rfl⟩⟩
    have I1 : Inv X pins σ (upd H s.heap.objs.size (.tup [.int (i : Nat), x])) { s with heap := h'', toks := tk + 1 } :=
      I.turnedNew (ch := [e, it]) (fun b ob hb q => (sb.2 b (fun z => hb (by simp [z]))).trans (hk b ob (fun z => hb (by simp [z])) (fun z => hb (by simp [z])) q)) hf (Nat.le_refl _) new
    refine ⟨.ref s.heap.objs.size, _, I1, rfl, ⟨_, x, rfl, I.hok.fresh (Nat.le_refl _), rfl, fun ys hy => by rw [I.tuple_inj hy hq]; exact hx⟩, ⟨⟨y, ?_⟩, hst.1.at fun o q => (sb.2 it (Ne.symm hne)).trans q, hne⟩, fun b hb => ?_⟩
    · rw [show ((i + 1 : Nat) : Int) = (i : Int) + 1 by omega]; exact he'
    · have hb' : b < s.heap.objs.size := by
        rcases (show b = e ∨ b = it by simpa using hb) with z | z
        · rw [z]; exact hel
        · rw [z]; exact hil
      rw [upd_ne (Nat.ne_of_lt hb')]
      exact (hf b hb).1
  done := by
    intro X hP hw hK hc i pins s σ H E I hf ⟨⟨old, he⟩, hit, hne⟩ hg
    subst hP hw hK
    obtain ⟨xs, hq, hx⟩ := hg
    obtain ⟨its, rv, p, hz⟩ := I.tuple hq
    obtain ⟨f0, f1, f2, f3, f4, f5⟩ := hf it (by simp)
    have hl := rv.length
    have hT : s.TypeIs (.ref e) "enumerate" := ⟨_, he, rfl⟩
    unfold pyNext
    refine wpAny_bind (wpAny_attempt (wpAny_callSpecial?_slot (name := Str.ofString "__next__") hT F.slot_enumerate_next (wpAny_call_entry F.slot_enumerate_next hT F.entry_enumerate_next ?_ (F.args_enumerate_next_1 _))))
    show wpAny _ _ (field (.ref e) 2 >>= _) _ _ _
    refine wpAny_bind (wpAny_field he rfl (x := .ref it) rfl ?_)
    refine wpAny_bind (RZ.nextOf_tuple_end (I.ok.hd hc) hit p (by simp; omega) fun h' x eb hx' => ?_)
    obtain ⟨o, ho, hcl⟩ := hx'
    refine wpAny_bind (wpAny_isInstance (T := "StopIteration") (b := true) ⟨o, ho, hcl⟩ isSubtype_stop ?_)
    exact wpAny_pure ⟨rfl, I.turned (t' := s.toks) (fun b o hb q => eb b o hb q) f0 f1 f3 f4 f5⟩
  self := fun A i s Q E ⟨⟨_, he⟩, _⟩ h => wpAny_pyIter_enum he h
def iEnumT (K : PySem.W.Frag) (ta : TA) : TI := fun σ H R => ta σ H fun vs H1 => ∃ a xs, vs = [.ref a] ∧ SqT K H1 a xs ∧ R (IteT K a) H1
theorem pi_enumT {X : Cx} {e : Expr} {ta : TA} {p pos tpos : Pos} {elts : List Expr} {kk : Nat} (hg : Gl X "enumerate") (hm : X.mg "enumerate" = none) (ha : PA X [e] ta) (hs : starEach [e] X.env = [(false, eval e X.env)] := by rfl) :
    PI X (.Tuple elts kk tpos) (.Call (.Name "enumerate" p) [e] [] pos) (iEnumT X.K ta) := by
  refine ⟨fun pins s σ H R I h => ?_⟩
  refine Call_ (ld_blt I hg hm boot_enumerate (PyProof.Rows.callWith_type1 (thn (ha.run pos pins s σ H _ I h) fun us s1 ⟨vs, H1, I1, r1, a, xs, ex, hq, q⟩ => ?_) hs rfl))
  subst ex
  rw [Vals.ref1 r1]
  obtain ⟨its, rv, p', hz⟩ := I1.tuple hq
  have hal : a < s1.heap.objs.size := let ⟨_, q, _⟩ := p'; Heap.lt_size q
  refine call_enumT p' fun h' he hit hk => wpAny_pyIter_enum he ?_
  have I2 : Inv X pins σ H1 { s1 with heap := h' } := I1.kept (t' := s1.toks) hk
  refine ⟨s1.heap.objs.size + 1, [s1.heap.objs.size + 1, s1.heap.objs.size], _, _, H1, rfl, I2, turn_enumT a (s1.heap.objs.size + 1) s1.heap.objs.size (Nat.ne_of_lt hal) (Nat.ne_of_lt (Nat.lt_succ_of_lt hal)), ⟨⟨.none, he⟩, hit, Nat.succ_ne_self _⟩, fun b hb => ?_, q⟩
  have hle : s1.heap.objs.size ≤ b := by
    rcases (show b = s1.heap.objs.size + 1 ∨ b = s1.heap.objs.size by simpa using hb) with z | z
    · rw [z]; exact Nat.le_succ _
    · rw [z]; exact Nat.le_refl _
  exact I1.fpOk hle (I1.hok.fresh hle)

/-! ### dict(zip(list, list)) -/
def tDictZip (K : PySem.W.Frag) (ta : TA) : TE := fun σ H Q => ta σ H fun vs H1 => ∃ (a b : Addr) (ks : List Key) (ys : List V), vs = [.ref a, .ref b] ∧ SqL K H1 a (ks.map kV) ∧ SqL K H1 b ys ∧ ks.length = ys.length ∧ ks.Nodup ∧
  ∀ p, H1 p = none → Q (.ref p) (upd H1 p (.dK (ks.zip ys)))
theorem kv_of {ks : List Key} {ys : List V} {us ws : List Value} (h1 : Vals (ks.map kV) us) (h2 : Vals ys ws) (hl : ks.length = ys.length) : KV (ks.zip ys) (ks.zip ws) := by
  induction ks generalizing ys us ws with
  | nil => exact .nil
  | cons k ks ih =>
    cases h2 with
    | nil => simp at hl
    | cons r t =>
      cases h1 with
      | cons r1 t1 => exact .cons ⟨rfl, r⟩ (ih t1 t (by simpa using hl))
theorem pe_dictZip {X : Cx} {e e2 : Expr} {ta : TA} {p p2 q pos : Pos} (hc : X.calm = true) (hg : Gl X "dict") (hm : X.mg "dict" = none) (hg2 : Gl X "zip") (hm2 : X.mg "zip" = none) (ha : PA X [e, e2] ta)
    (hs : starEach [e, e2] X.env = (false, eval e X.env) :: starEach [e2] X.env := by rfl) (hpl : (backTo q (starEach [e2] X.env)).any (·.1) = false := by rfl)
    (na : starEach [.Call (.Name "zip" p2) [e, e2] [] q] X.env = (false, eval (.Call (.Name "zip" p2) [e, e2] [] q) X.env) :: starEach [] X.env := by rfl) :
    PE X (.Call (.Name "dict" p) [.Call (.Name "zip" p2) [e, e2] [] q] [] pos) (tDictZip X.K ta) := by
  refine ⟨fun pins s σ H Q I h => ?_⟩
  refine Call_ (ld_blt I hg hm boot_dict ?_)
  refine PyProof.Rows.callWith_type1 (PyProof.Rows.args_cons ?_ na) na rfl
  refine Call_ (ld_blt I hg2 hm2 PyProof.Rows.boot_zip (PyProof.Rows.callWith_type1 (thn (ha.run q pins s σ H _ I h) fun us s1 ⟨vs, H1, I1, r1, q1⟩ => ?_) hs hpl))
  obtain ⟨a, b, ks, ys, rfl, hqx, hqy, hl, nd, q1⟩ := q1
  cases r1 with
  | cons r rr =>
    cases rr with
    | cons r' rr =>
      cases rr
      cases r
      cases r'
      obtain ⟨its, rv, p1, z1⟩ := I1.list hqx
      obtain ⟨its2, rv2, p2, z2⟩ := I1.list hqy
      have l1 := rv.length
      have l2 := rv2.length
      rw [List.length_map] at l1
      refine call_zip_2 p1.isList p2.isList fun h' hz hTI hTO h1 h2 hsz hk => ?_
      refine PyProof.Rows.args_nil ?_
      have mn : min its.toArray.size its2.toArray.size = ks.length := by simp; omega
      have I2 : Inv X pins σ H1 { s1 with heap := h' } := I1.kept (t' := s1.toks) hk
      refine call_dict_pairs (s := { s1 with heap := h' }) (knd := mixKind X.prog X.w) (kvs := ks.zip its2)
        (PairArg.zip (s1.heap.objs.size + 4) (s1.heap.objs.size + 2) (s1.heap.objs.size + 3) s1.heap.objs.size (s1.heap.objs.size + 1) a b (PySem.W.ktu_apart s1.heap.objs.size a b p1.lt p2.lt) its.toArray its2.toArray) (I.ok.hd hc)
        ⟨hz, hTI, ⟨_, _, hTO⟩, h1, h2, p1.isList.at fun o e => hk _ o e, p2.isList.at fun o e => hk _ o e⟩ ⟨by rw [mn, List.length_zip]; omega, fun i key v hr => ?_⟩ (by rw [mn]; rw [List.length_map] at z1; exact z1) fun h2' tk hd hk2 => ?_
      · obtain ⟨e1, e2⟩ := hr
        have e1' : its[i]? = some key := by simpa using e1
        have e2' : its2[i]? = some v := by simpa using e2
        have hi : i < ks.length := by
          have := (List.getElem?_eq_some_iff.mp e1').1
          omega
        refine ⟨ks[i], ?_, ?_⟩
        · rw [List.getElem?_zip_eq_some]
          exact ⟨List.getElem?_eq_getElem hi, e2'⟩
        · obtain ⟨u, hu, ru⟩ := rv.get (i := i) (x := kV ks[i]) (by rw [List.getElem?_map, List.getElem?_eq_getElem hi]; rfl)
          have : u = key := Option.some.inj (hu.symm.trans e1')
          subst this
          exact kV_is (P := X.prog) (w := X.w) ru
      · have keys : ((ks.zip its2).map (·.1)).Nodup := by
          rw [List.map_fst_zip (by omega)]
          exact nd
        rw [merged_nil_of_nodup _ keys] at hd
        have hsm : ((h'.objs.size) == sysModules) = false := by
          refine beq_eq_false_iff_ne.mpr (Ne.symm (Nat.ne_of_lt ?_))
          rw [hsz]
          exact Nat.lt_of_lt_of_le I1.big (Nat.le_add_right _ _)
        have fr : ∀ c, c < s1.heap.objs.size → c ∉ [s1.heap.objs.size + 4, s1.heap.objs.size + 3, s1.heap.objs.size, s1.heap.objs.size + 1] := fun c hc' hm' => by
          simp only [List.mem_cons, List.not_mem_nil, or_false] at hm'
          omega
        have keep : ∀ c o, s1.heap.get? c = some o → h2'.get? c = some o := fun c o e => hk2 c o (fr c (Heap.lt_size e)) (hk c o e)
        have hH : H1 h'.objs.size = none := I1.hok.fresh (by rw [hsz]; omega)
        refine ⟨.ref h'.objs.size, upd H1 h'.objs.size (.dK (ks.zip ys)), ?_, rfl, q1 _ hH⟩
        refine I1.laid (t' := tk) keep (by rw [hsz]; omega) (show ObjOk X.prog X.w _ _ _ (.dK (ks.zip ys)) from ⟨?_, hsm, ks.zip its2, kv_of rv rv2 hl, hd⟩)
        rw [List.length_zip]
        omega
end KD

set_option maxRecDepth 100000
/-! set(list of ints), by what sorted needs. -/
namespace KD
open PySem PySem.Spec PyProof.Rows L2
open PySem.Sem (wp)
/-- the set as it is made -/
abbrev newS (w : World) : Obj := { cls := .type "set", dict := none, data := .set #[] 0 (.fresh 0 0 (!w.params.followText "set-order")) }
abbrev withS (w : World) (h : Heap) : Heap := h.push (newS w)
section
variable {P : Program} {w : World} {A : Around} {E : Value → Shared → Prop} {s : Shared}
def SetMade (w : World) (s : Shared) (ns : List Int) (s2 : Shared) : Prop := ∃ h' tk c, s2 = { s with heap := h', toks := tk } ∧ SetR w h' s.heap.objs.size (fun j => decide (j ∈ ns)) c ∧ c ≤ ns.length ∧ ∀ b o, s.heap.get? b = some o → h'.get? b = some o
set_option maxHeartbeats 3200000 in
theorem call_setI {l : Addr} {items : Array Value} (ns : List Int) {Q : Value → Shared → Prop} (hh : A.handled = none) (hl : s.heap.IsList l items) (hit : IntsAre items.toList ns) (hb : ns.length + 1 < scanBound)
    (h : ∀ s2, SetMade w s ns s2 → Q (.ref s.heap.objs.size) s2) : wpAny (model P w) A (call (.type "set") [.ref l]) Q E s := by
  have size : items.size = ns.length := by have z := IntsAre.length hit; rwa [Array.length_toList] at z
  obtain ⟨cc, tl, mro⟩ := F.called_set.mro
  have m1 := F.called_set.made
  have m2 := F.called_set.sub
  refine wpAny_call (codeAny_of_tree ?_)
  show wpAny _ _ (callAny (.type "set") _) _ _ _
  refine wpAny_pure ⟨Code.quiet_builtin _ (by decide +kernel), codeAny_builtin F.entry_type_call ?_⟩
  rw [Around.under_plain (weight_type_call_type "set" [.ref l] []) rfl]
  have m3 := F.called_set.notType
  have m4 := F.called_set.canCreate
  have m5 := F.typeCall_set_1 (.ref l)
  repeat (any_goals (first | assumption | wp_step))

  refine codeAny_mono (code_set_led1 (.ref l) (E := E) (Q₁ := fun obj t => obj = .ref s.heap.objs.size ∧ t = { s with heap := withS w s.heap }) ⟨rfl, rfl⟩) fun r t hr => ?_
  cases r with
  | error e => exact hr
  | ok fl =>
    cases fl with
    | ret obj =>
      obtain ⟨rfl, rfl⟩ := hr
      have at0 : (withS w s.heap).get? s.heap.objs.size = some (newS w) := Heap.get?_push_size _ rfl
      have ty0 : Shared.TypeIs { s with heap := withS w s.heap } (.ref s.heap.objs.size) "set" := ⟨_, at0, rfl⟩
      have i1 := F.called_set.init.lookup
      have i2 := F.called_set.init.bind (.ref s.heap.objs.size)
      repeat (any_goals (first | assumption | wp_step))

      refine codeAny_mono (codeAny_call_builtin (R := wants (fun r s₂ => r = .none ∧ SetMade w s ns s₂) E) F.called_set.init.plain F.entry_set_init (check_set_init_1 ty0 ?_)) fun r2 t2 hr2 => ?_
      · obtain ⟨ol, hol, hcl, nl, hdl⟩ := hl
        obtain ⟨oc, od, odata, os⟩ := ol
        simp only at hcl hdl
        subst hcl; subst hdl
        have hol2 : (withS w s.heap).get? l = some { cls := .type "list", dict := od, data := .seq items nl, slots := os } := Heap.get?_push_of_some _ hol
        have f1 := F.sub_list_set
        have f2 := F.sub_list_frozenset
        have f3 : (Value.type "list" == Value.type "dict") = false := by decide
        have isl : (withS w s.heap).IsList l items := ⟨_, hol2, rfl, nl, rfl⟩
        unfold Builtin.«set.__init__» noKeywords Builtin.Frozenset.updateFrom
        generalize hPI : pyIter = PI
        wp_walk
        subst hPI

        refine wpAny_pyIter_list isl ?_
        refine wpAny_bind (wpAny_runValue ?_)
        have lt : l < s.heap.objs.size := Heap.lt_size hol
        have h3 : A.in1.in1.in1.handled = none := by simp [hh]
        have z1 : (withS w s.heap).objs.size = s.heap.objs.size + 1 := Heap.size_push ..
        have ne1 : l ≠ (withS w s.heap).objs.size := by rw [z1]; exact Nat.ne_of_lt (Nat.lt_succ_of_lt lt)
        have off : s.heap.objs.size ∉ [(withS w s.heap).objs.size, l] := by
          rw [z1]
          simp only [List.mem_cons, List.not_mem_nil, or_false, not_or]
          exact ⟨Nat.ne_of_lt (Nat.lt_succ_self _), Nat.ne_of_gt lt⟩
        have vals : ∀ (i : Nat) (v : Value), items[i]? = some v → ∃ k t, ns[i]? = some k ∧ v = .int k t := fun i v hv => by
          have hi : i < ns.length := by rw [← size]; exact (Array.getElem?_eq_some_iff.mp hv).1
          obtain ⟨t, e⟩ := PyProof.Rows.IntsAre.int_at hit i v (by rw [Array.getElem?_toList]; exact hv)
          exact ⟨ns[i], t, List.getElem?_eq_getElem hi, by rw [e, List.getD_eq_getElem?_getD, List.getElem?_eq_getElem hi] <;> rfl⟩
        refine set_update_ints ((Walks.list h3 _ l ne1 items).toS) s.heap.objs.size off ns size hb vals (items.size - 0) 0 _ (by omega) (Nat.zero_le _) ⟨⟨_, Heap.get?_push_size _ rfl, rfl, rfl⟩, isl.push _⟩ ⟨0, Nat.le_refl 0, setR_new_at (Heap.get?_push_of_some _ at0)⟩ ?_
        intro t3 c' hm hc' hS'
        obtain ⟨h', g2, d', tk', os'⟩ := t3
        cases (hm.gens : g2 = s.gens)
        cases (hm.drawn : d' = s.drawn)
        cases (hm.os : os' = s.os)
        show wpAny _ _ _ _ _ _
        refine wpAny_pure ?_
        show wpAny _ _ (ret Value.none) _ _ _
        rw [size] at hc'
        refine wpAny_pure ⟨rfl, h', tk', c', rfl, hS', hc', fun b o e => ?_⟩
        have b0 : b < s.heap.objs.size := Heap.lt_size e
        refine hm.heap b o ?_ (Heap.get?_push_of_some _ (Heap.get?_push_of_some _ e))
        rw [z1]
        simp only [List.mem_cons, List.not_mem_nil, or_false, not_or]
        exact ⟨Nat.ne_of_lt b0, Nat.ne_of_lt (Nat.lt_succ_of_lt b0)⟩
      · cases r2 with
        | error e => exact hr2
        | ok fl2 =>
          cases fl2 with
          | ret r =>
            obtain ⟨rfl, made⟩ := hr2
            obtain ⟨h', tk, c, rfl, x⟩ := made
            repeat (any_goals (first | assumption | wp_step))
            exact h _ ⟨h', tk, c, rfl, x⟩
          | _ => exact hr2.elim
    | _ => exact hr.elim
end
section
variable {X : Cx}
def rSetI (K : PySem.W.Frag) (w : World) : List V → Hp → VK → Prop := fun vs H Q => ∃ (l : Addr) (ns : List Int), vs = [.ref l] ∧ SqL K H l (ns.map V.int) ∧ ns.length ≤ 1000 ∧ ∀ p n, H p = none → n ≤ ns.length → Q (.ref p) (upd H p (SetO w p (fun j => decide (j ∈ ns)) n))
theorem cr_setI (hc : X.calm = true := by rfl) {K : PySem.W.Frag} (hK : X.K = K := by rfl) : CallR X (.type "set") (rSetI K X.w) := by
  subst hK
  intro pins s σ H vs us Q I r h
  obtain ⟨l, ns, rfl, hq, hn, q⟩ := h
  rw [Vals.ref1 r]
  obtain ⟨its, rv, pl, hz⟩ := I.list hq
  refine call_setI ns (I.ok.hd hc) pl.isList (by simpa using RZ.intsAre_vals rv) (by unfold scanBound; omega) fun s2 ⟨h', tk, c, e, R, cl, keep⟩ => ?_
  subst e
  exact ⟨.ref s.heap.objs.size, _, I.laid (t' := tk) keep (Nat.le_refl _) (setO_new R), rfl, q _ c (I.hok.fresh (Nat.le_refl _)) cl⟩
end
/-- sorted(set(e)), a list of ints -/
def sortedSet (ns : List Int) (ys : List Int) : Prop := ys.Pairwise (· < ·) ∧ ∀ k, k ∈ ys ↔ k ∈ ns
theorem ev_sortedSet {K : PySem.W.Frag} {w : World} {σ : L2.St} {H : Hp} {te : TE} {ns : List Int} (h : EvL K te σ H (ns.map .int)) (hn : ns.length < 64) (Q : VK)
    (q : ∀ p ys H2, sortedSet ns ys → H p = none → Same H H2 → H2 p = some (.lst (ys.map V.int)) → Q (.ref p) H2) :
    tCB (rSortedSet w) (tCons (tCB (rSetI K w) (tCons te tNil)) tNil) σ H Q := by
  refine h.use _ fun p xs H1 hp s1 e1 d1 => ?_
  have e2 := d1.of_ints
  subst e2
  refine ⟨p, ns, rfl, .inl (.inl e1), by omega, fun p2 n hp2 hn2 => ?_⟩
  refine ⟨p2, _, n, rfl, upd_same, by omega, fun ys p3 h1 h2 h3 hp3 => ?_⟩
  have s2 := same_new (o := SetO w p2 (fun j => decide (j ∈ ns)) n) hp2
  exact q p3 ys _ ⟨h1, fun k => by rw [h2]; simp⟩ ((s1.trans s2).free hp3) ((s1.trans s2).trans (same_new hp3)) upd_same
end KD

set_option maxRecDepth 100000
/-! A call by keywords alone. -/
namespace KD
open PySem PySem.Spec PyProof.Rows L2
theorem kbn_of {K : PySem.W.Frag} {x qual : Str} {st : Stmt} {f : Addr} {fd : FuncData} (F : Fun K x qual st f fd) {ps ks : List Str} {n : Nat} {g : List Value → List Value → List Value} {gV : List V → List V → List V}
    (h : ∀ (kV doc pm : Value) (an : Option Addr) (cdv ct : Value) (us ws : List Value), us.length = n → ws.length = ks.length → bindArgs (PySem.W.fnOf x qual (defArgs st) (defBody st) (defScope st) .none kV doc pm an cdv ct) ⟨us, ks.zip ws⟩ = pure (ps.zip (g us ws)))
    (rel : ∀ {vs : List V} {us : List Value} {zs : List V} {ws : List Value}, Vals vs us → Vals zs ws → Vals (gV vs zs) (g us ws)) : KBn K fd ps n ks g gV := by
  obtain ⟨oc, od, kV, doc, pm, an, cdv, ct, osl, rfl, lk, hcd⟩ := F.ex
  exact ⟨fun s us ws _ l1 l2 => .of_eq (h kV doc pm an cdv ct us ws l1 l2), rel⟩
section
variable {X : Cx} {CX : CXT} {k : Nat} {f : Addr} {fd : FuncData} {ps ks : List Str} {sp : Sp} {E : XK} {x : Str} {p pos : Pos} {kws : List Keyword} {tk : TA} {g : List Value → List Value → List Value} {gV : List V → List V → List V}
theorem pe_callK0 (F : FnOk X.prog X.w X.K X.mg X.base CX k f fd ps sp) (hr : Room k X.A) (hg : Gl X x) (hm : X.mg x = some (.ref f)) (hk : PySem.W.keepIn X.K (.ref f) = true) (hb : KBn X.K fd ps 0 ks g gV) (hx : Passes CX X E) (hkw : PK X kws tk)
    (hall : (backToKw pos (keywordEach kws X.env)).all (·.1.isSome) = true := by rfl) (hks : (backToKw pos (keywordEach kws X.env)).filterMap (·.1) = ks := by rfl) (hdb : (x == ("__debug__" : Str)) = false := by decide)
    (hpl : ((backTo pos (starEach [] X.env)).any (·.1) || (backToKw pos (keywordEach kws X.env)).any (·.1.isNone)) = false := by rfl) : PE X (.Call (.Name x p) [] kws pos) (tCallN 0 ks.length sp gV E tNil tk) := by
  refine ⟨fun pins s σ H Q I h => ?_⟩
  refine wpAny_Call_Name_kw (ld_glob I hg hm ?_ hdb)
  refine PySem.W.callWith_KW0 (h₀ := X.base) I.ok.mod.kin hk hall ?_ hpl
  refine thn (hkw.run pos pins s σ H _ I h) fun ws s2 ⟨zs, H2, I2, rz, l1, l2, q2⟩ => ⟨I2.kIn, ?_⟩
  rw [hks]
  exact run_fnN F hr hb hx I2 .nil rz rfl l2 q2
end
def gW {α : Type} : List α → List α → List α := fun _ ws => ws
def gR {α : Type} : List α → List α → List α := fun _ ws => ws.reverse
theorem gW_rel {vs : List V} {us : List Value} {zs : List V} {ws : List Value} (_ : Vals vs us) (h : Vals zs ws) : Vals (gW vs zs) (gW us ws) := h
theorem vals_rev : ∀ {zs : List V} {ws : List Value}, Vals zs ws → Vals zs.reverse ws.reverse
  | _, _, .nil => .nil
  | _, _, .cons r t => by
    rw [List.reverse_cons, List.reverse_cons]
    exact vals_app (vals_rev t) (.cons r .nil)
where vals_app : ∀ {a b : List V} {c d : List Value}, Vals a c → Vals b d → Vals (a ++ b) (c ++ d)
  | _, _, _, _, .nil, t => t
  | _, _, _, _, .cons r s, t => .cons r (vals_app s t)
theorem gR_rel {vs : List V} {us : List Value} {zs : List V} {ws : List Value} (_ : Vals vs us) (h : Vals zs ws) : Vals (gR vs zs) (gR us ws) := vals_rev h
/-- the reading, over data -/
theorem evp_callK1 {K : PySem.W.Frag} {H : Hp} {σ : L2.St} {te : TE} {d : PyData} {E : XK} {Pre : List PyData → Prop} {Post : List PyData → PyData → Prop} {Err : List PyData → Addr → Prop} (h : EvD K te σ H d) (hp : Pre [d]) (he : ∀ C, ¬ Err [d] C) :
    EvP K (tCallN 0 1 (spE K Pre Post Err) gW E tNil (tCons te tNil)) σ H (Post [d]) := fun H1 s Q q => h.run s fun v H2 s2 p2 =>
  ⟨rfl, rfl, [d], .one p2, hp, fun r v H3 s3 p3 e3 => q v H3 r (s2.trans s3) p3 e3, fun C H3 _ x => (he C x).elim⟩
theorem evp_callK2 {K : PySem.W.Frag} {H : Hp} {σ : L2.St} {ta tb : TE} {d e : PyData} {E : XK} {Pre : List PyData → Prop} {Post : List PyData → PyData → Prop} {Err : List PyData → Addr → Prop} (h : EvD K ta σ H e) (h2 : EvD K tb σ H d) (hp : Pre [d, e]) (he : ∀ C, ¬ Err [d, e] C) :
    EvP K (tCallN 0 2 (spE K Pre Post Err) gR E tNil (tCons ta (tCons tb tNil))) σ H (Post [d, e]) := fun H1 s Q q => h.run s fun v H2 s2 p2 => h2.run (s.trans s2) fun u H3 s3 p3 =>
  ⟨rfl, rfl, [d, e], .cons p3 (.one (p2.mono s3)), hp, fun r v H4 s4 p4 e4 => q v H4 r ((s2.trans s3).trans s4) p4 e4, fun C H4 _ x => (he C x).elim⟩
end KD

namespace K96
open PySem PySem.Spec PyProof.Rows L2 KD
theorem kb_least {K : PySem.W.Frag} {mg : Str → Option Value} (T : Txt K mg) : KBn K T.A_least_ladder.d ["ladder"] 0 ["ladder"] gW gW := kbn_of T.A_least_ladder.F (fun _ _ _ _ _ _ us ws h1 h2 => match us, ws, h1, h2 with | [], [_], _, _ => rfl) gW_rel
theorem kb_same {K : PySem.W.Frag} {mg : Str → Option Value} (T : Txt K mg) : KBn K T.A_same_ladders.d ["ladder", "other"] 0 ["other", "ladder"] gR gR := kbn_of T.A_same_ladders.F (fun _ _ _ _ _ _ us ws h1 h2 => match us, ws, h1, h2 with | [], [_, _], _, _ => rfl) gR_rel
end K96

set_option maxRecDepth 100000
set_option maxHeartbeats 2000000
/-! numbered, of keys by value and of tuples -/
namespace K96
open PySem PySem.Spec PyProof.Rows L2 KD Ladm
section
variable {X : Cx} {P : Program} {w : World}
theorem u16 {A : Around} {k : Nat} (hr : Room k A) : A.units + 16 < cLine := Nat.lt_of_le_of_lt (Nat.add_le_add_left (by decide : 16 ≤ 64) _) hr.units
theorem kLenN' (hP : X.prog = P := by rfl) (hw : X.w = w := by rfl) : CallR X (.builtin "len") (rLenN P w) := by subst hP hw; exact kLenN
theorem kLenH' {K : PySem.W.Frag} (hK : X.K = K := by rfl) (hP : X.prog = P := by rfl) (hw : X.w = w := by rfl) : CallR X (.builtin "len") (rLenH K P w) := by subst hP hw; exact kLenH hK
variable {o e f : Expr} {td ty tx : TE} {apos cpos : Pos}
theorem setN' (ho : PE X o td) (he : PE X e ty) (hf : PE X f tx) (m : M2 X o "setdefault" apos e f cpos) (hP : X.prog = P := by rfl) (hw : X.w = w := by rfl) : PE X (.Call (.Attribute o "setdefault" apos) [e, f] [] cpos) (tSetN P w td ty tx) := by
  subst hP hw; exact pe_setN ho he hf m
theorem setH' {K : PySem.W.Frag} (hu : X.A.units + 16 < cLine) (ho : PE X o td) (he : PE X e ty) (hf : PE X f tx) (m : M2 X o "setdefault" apos e f cpos) (hK : X.K = K := by rfl) (hP : X.prog = P := by rfl) (hw : X.w = w := by rfl) : PE X (.Call (.Attribute o "setdefault" apos) [e, f] [] cpos) (tSetH K P w td ty tx) := by
  subst hP hw; exact pe_setH hu ho he hf m hK
end
def keyD : Option Key → PyData
  | none => .none
  | some (.inl i) => .int i
  | some (.inr s) => .str s
theorem nV_of {K : PySem.W.Frag} {H : Hp} {v : V} {k : Option Key} (h : Dq K H v (keyD k)) : v = nV k := by
  match k, h with
  | none, h => exact h.nonE
  | some (.inl i), h => exact h.intE
  | some (.inr s), h => exact h.strE
theorem uniq_take_succ {κ : Type} [DecidableEq κ] {ks : List κ} {i : Nat} {k : κ} (h : ks[i]? = some k) : uniq (ks.take (i + 1)) = if k ∈ uniq (ks.take i) then uniq (ks.take i) else uniq (ks.take i) ++ [k] := by
  rw [List.take_add_one, h]
  exact uniq_snoc _ _
theorem numbered_take_succ {κ : Type} [DecidableEq κ] {ks : List κ} {i : Nat} {k : κ} (h : ks[i]? = some k) : numbered (ks.take (i + 1)) = numbered (ks.take i) ++ [(uniq (ks.take (i + 1))).idxOf k] := by
  rw [List.take_add_one, h]
  exact numbered_snoc _ _
theorem idx_new {κ : Type} [DecidableEq κ] {l : List κ} {k : κ} (h : k ∉ l) : (l ++ [k]).idxOf k = l.length := by
  rw [List.idxOf_append, if_neg h]
  simp
def nats' (ns : List Nat) : List PyData := ns.map fun n => .int (n : Nat)
def vNats (ns : List Nat) : List V := ns.map fun n => .int (n : Nat)
theorem vNats_dq {K : PySem.W.Frag} {H : Hp} : ∀ (ns : List Nat), DqAll K H (vNats ns) (nats' ns)
  | [] => .nil
  | n :: ns => .cons (.int _) (vNats_dq ns)
section
variable {P : Program} {w : World} {K : PySem.W.Frag} {mg : Str → Option Value} {base : Heap}
def spNumN (K : PySem.W.Frag) : Sp := fun vs H Q _ => ∃ (p : Addr) (xs : List V) (ks : List (Option Key)), vs = [.ref p] ∧ SqL K H p xs ∧ DqAll K H xs (ks.map keyD) ∧ ks.length ≤ 1000 ∧
  ∀ q H', H q = none → Same H H' → H' q = some (.lst (vNats (numbered ks))) → Q (.ref q) H'
theorem ok_numberedN (T : Txt K mg) : FnOk P w K mg base CX0 1 T.A_numbered.f T.A_numbered.d ["keys"] (spNumN K) := by
  refine T.A_numbered.F.ok sc_numbered (fun vs H Q E h => ?_) (fun cdv A outer s H vs Q E hr h => ?_)
  · obtain ⟨_, _, _, rfl, _⟩ := h; rfl
  · obtain ⟨p, xs, ks, rfl, hs, hd, hl, q⟩ := h
    refine ⟨_, (pss_cons (ps_set (i := 1) sc_numbered.nd rfl (.inr rfl) pe_dnewN)
      (pss_one (ps_ret (pe_lc (own := [("key", 2)]) (g := gName 2) (tt := tYes) rfl sc_numbered.nd (kiList (K := K) (pv 0)) (blkOk_by (own := [("key", 2)]) (N := ["keys", "numbers", "key"]) (sc := defScope s_numbered) (by decide +kernel)) (fun _ _ _ _ _ => (pg_name (i := 2) sc_numbered.nd rfl (.inl rfl))) (fun _ _ _ _ _ => pts_nil)
        (fun _ _ _ _ _ => (setN' (P := P) (w := w) (pv 1) (pv 2) (pe_callB (kLenN' (P := P) (w := w)) (by rfl) T.n_len (by decide +kernel) (pa_cons (pv 1) pa_nil)) ⟨rfl, rfl, rfl, rfl⟩)))))), ?_⟩
    intro a ha
    have e1 : (upd H a (NumN P w a [])) a = some (NumN P w a []) := upd_same
    have s1 : Same H (upd H a (NumN P w a [])) := same_new ha
    have hlen : (ks.map keyD).length = ks.length := List.length_map ..
    refine lc_inv (K := K) (evi_listF (p := p) (xs := xs) (ds := ks.map keyD) (sqL_same s1 hs) (hd.mono s1) (evr_v 0 rfl)) (by rw [hlen]; omega)
      (fun H2 D i acc H' => Same H H' ∧ a ≠ D ∧ H' a = some (NumN P w a (uniq (ks.take i))) ∧ acc = vNats (numbered (ks.take i)))
      (fun H2 D i acc H' s2 hD hi ⟨s3, _, _, _⟩ => ⟨sqL_same s3 hs, hd.mono s3⟩) (fun H2 D s2 hD => ?_) (fun H2 D i d acc H' x H'' s2 hD he eD ⟨s3, ne, ea, eacc⟩ s4 dx => ?_) (fun _ _ _ _ _ k h => k _ _ h) (fun _ _ _ _ k h => k _ _ h) (fun σ' H' Q1 Q2 k h => ?_) (fun H2 D acc H' s2 hD eD ⟨s3, ne, ea, eacc⟩ => ?_)
    · have ne : a ≠ D := fun z => by
        have := s2 _ _ e1
        rw [z, hD] at this
        cases this
      refine ⟨(s1.trans s2).trans (same_new hD), ne, ?_, rfl⟩
      rw [upd_ne ne]
      exact s2 _ _ e1
    · rw [List.getElem?_map] at he
      obtain ⟨k, hk, rfl⟩ : ∃ k, ks[i]? = some k ∧ d = keyD k := by
        cases e : ks[i]? with
        | none => rw [e] at he; cases he
        | some k => rw [e] at he; exact ⟨k, rfl, (Option.some.inj he).symm⟩
      have ex : x = nV k := nV_of dx
      subst ex
      have ea2 : H'' a = some (NumN P w a (uniq (ks.take i))) := s4 _ _ ea
      have eD2 : H'' D = some (.lst acc) := s4 _ _ eD
      have sH := s3.trans s4
      have ul : (uniq (ks.take i)).length ≤ 1000 := by
        have := uniq_le (ks.take i)
        rw [List.length_take] at this
        omega
      refine ⟨rfl, ?_⟩
      refine ⟨.ref a, rfl, a, uniq (ks.take i), rfl, ea2, nV k, rfl, .ref a, rfl, a, uniq (ks.take i), rfl, ea2, uniq (ks.take i), k, ea2, rfl, rfl, by rw [sizeLine_eq]; omega, fun hm => ?_, fun hm => ?_⟩
      · refine ⟨eD2, ?_⟩
        have eu : uniq (ks.take (i + 1)) = uniq (ks.take i) := by rw [uniq_take_succ hk, if_pos hm]
        refine ⟨same_mut sH (s1.trans s2 |>.free hD), ne, ?_, ?_⟩
        · rw [upd_ne ne, eu]; exact ea2
        · rw [numbered_take_succ hk, eu, eacc]
          unfold vNats
          rw [List.map_append]
          rfl
      · have eu : uniq (ks.take (i + 1)) = uniq (ks.take i) ++ [k] := by rw [uniq_take_succ hk, if_neg hm]
        have eD3 : (upd H'' a (NumN P w a (uniq (ks.take i) ++ [k]))) D = some (.lst acc) := by rw [upd_ne (Ne.symm ne)]; exact eD2
        refine ⟨eD3, same_mut (same_mut sH ha) (s1.trans s2 |>.free hD), ne, ?_, ?_⟩
        · rw [upd_ne ne, upd_same, eu]
        · rw [numbered_take_succ hk, eu, eacc]
          unfold vNats
          rw [List.map_append]
          congr 2
          exact congrArg (fun n : Nat => V.int (n : Int)) (idx_new hm).symm
    · obtain ⟨x, e, a', ks0, ex, ea, y, e2, h2⟩ := h
      refine ⟨x, e, a', ks0, ex, ea, y, e2, ?_⟩
      obtain ⟨z, e3, a'', ks1, e4, e5, ks2, k2, f1, f2, f3, f4, f5, f6⟩ := h2
      exact ⟨z, e3, a'', ks1, e4, e5, ks2, k2, f1, f2, f3, f4, fun m => k _ _ (f5 m), fun m => k _ _ (f6 m)⟩
    · rw [List.length_map, List.take_length] at eacc
      subst eacc
      exact q D H' (s1.trans s2 |>.free hD) s3 eD
def spNumT (K : PySem.W.Frag) : Sp := fun vs H Q _ => ∃ (p : Addr) (xs : List V) (ks : List PyData), vs = [.ref p] ∧ SqL K H p xs ∧ DqAll K H xs ks ∧ (∀ d ∈ ks, keyable 8 d = true ∧ ∃ l, d = .tuple l) ∧ ks.length ≤ 1000 ∧
  ∀ q H', H q = none → Same H H' → H' q = some (.lst (vNats (numbered ks))) → Q (.ref q) H'
theorem ok_numberedT (T : Txt K mg) : FnOk P w K mg base CX0 1 T.A_numbered.f T.A_numbered.d ["keys"] (spNumT K) := by
  refine T.A_numbered.F.ok sc_numbered (fun vs H Q E h => ?_) (fun cdv A outer s H vs Q E hr h => ?_)
  · obtain ⟨_, _, _, rfl, _⟩ := h; rfl
  · obtain ⟨p, xs, ks, rfl, hs, hd, hkk, hl, q⟩ := h
    refine ⟨_, (pss_cons (ps_set (i := 1) sc_numbered.nd rfl (.inr rfl) pe_dnewH)
      (pss_one (ps_ret (pe_lc (own := [("key", 2)]) (g := gName 2) (tt := tYes) rfl sc_numbered.nd (kiList (K := K) (pv 0)) (blkOk_by (own := [("key", 2)]) (N := ["keys", "numbers", "key"]) (sc := defScope s_numbered) (by decide +kernel)) (fun _ _ _ _ _ => (pg_name (i := 2) sc_numbered.nd rfl (.inl rfl))) (fun _ _ _ _ _ => pts_nil)
        (fun _ _ _ _ _ => (setH' (K := K) (P := P) (w := w) (u16 hr) (pv 1) (pv 2) (pe_callB (kLenH' (K := K) (P := P) (w := w)) (by rfl) T.n_len (by decide +kernel) (pa_cons (pv 1) pa_nil)) ⟨rfl, rfl, rfl, rfl⟩)))))), ?_⟩
    intro a ha
    have e1 : (upd H a (NumT P w a [])) a = some (NumT P w a []) := upd_same
    have s1 : Same H (upd H a (NumT P w a [])) := same_new ha
    refine lc_inv (K := K) (evi_listF (p := p) (xs := xs) (ds := ks) (sqL_same s1 hs) (hd.mono s1) (evr_v 0 rfl)) (by omega)
      (fun H2 D i acc H' => Same H H' ∧ a ≠ D ∧ (∃ us : List (PyData × Addr), us.map (·.1) = uniq (ks.take i) ∧ H' a = some (NumT P w a us) ∧ ∀ x ∈ us, Dq K H' (.ref x.2) x.1 ∧ keyable 8 x.1 = true) ∧ acc = vNats (numbered (ks.take i)))
      (fun H2 D i acc H' s2 hD hi ⟨s3, _, _, _⟩ => ⟨sqL_same s3 hs, hd.mono s3⟩) (fun H2 D s2 hD => ?_) (fun H2 D i d acc H' x H'' s2 hD hk eD ⟨s3, ne, ⟨us, eus, ea, hus⟩, eacc⟩ s4 dx => ?_) (fun _ _ _ _ _ k h => k _ _ h) (fun _ _ _ _ k h => k _ _ h) (fun σ' H' Q1 Q2 k h => ?_) (fun H2 D acc H' s2 hD eD ⟨s3, ne, ea, eacc⟩ => ?_)
    · have ne : a ≠ D := fun z => by
        have := s2 _ _ e1
        rw [z, hD] at this
        cases this
      refine ⟨(s1.trans s2).trans (same_new hD), ne, ⟨[], rfl, ?_, fun x hx => by simp at hx⟩, rfl⟩
      rw [upd_ne ne]
      exact s2 _ _ e1
    · obtain ⟨kd, l, rfl⟩ := hkk d (List.mem_of_getElem? hk)
      obtain ⟨b, bs, rfl, _, _⟩ := dx.tupE
      have ea2 : H'' a = some (NumT P w a us) := s4 _ _ ea
      have eD2 : H'' D = some (.lst acc) := s4 _ _ eD
      have sH := s3.trans s4
      have fD : H D = none := s1.trans s2 |>.free hD
      have hus2 : ∀ x ∈ us, Dq K H'' (.ref x.2) x.1 ∧ keyable 8 x.1 = true := fun x hx => ⟨(hus x hx).1.mono s4, (hus x hx).2⟩
      have ul : us.length ≤ 1000 := by
        have := uniq_le (ks.take i)
        rw [← eus, List.length_map, List.length_take] at this
        omega
      have kpD : ∀ zs, Kp H'' (upd H'' D (.lst zs)) := fun zs => .updL eD2
      refine ⟨rfl, ?_⟩
      refine ⟨.ref a, rfl, a, us, rfl, ea2, .ref b, rfl, .ref a, rfl, a, us, rfl, ea2, hus2, us, .tuple l, b, ea2, hus2, rfl, dx, kd, rfl, by rw [sizeLine_eq]; omega, fun hm => ?_, fun hm => ?_⟩
      · rw [eus] at hm
        refine ⟨eD2, ?_⟩
        have eu : uniq (ks.take (i + 1)) = uniq (ks.take i) := by rw [uniq_take_succ hk, if_pos hm]
        refine ⟨same_mut sH fD, ne, ⟨us, by rw [eus, eu], ?_, fun x hx => ⟨(hus2 x hx).1.kp (kpD _), (hus2 x hx).2⟩⟩, ?_⟩
        · rw [upd_ne ne]; exact ea2
        · rw [numbered_take_succ hk, eu, eacc, eus]
          unfold vNats
          rw [List.map_append]
          rfl
      · rw [eus] at hm
        have eu : uniq (ks.take (i + 1)) = uniq (ks.take i) ++ [.tuple l] := by rw [uniq_take_succ hk, if_neg hm]
        have eD3 : (upd H'' a (NumT P w a (us ++ [(.tuple l, b)]))) D = some (.lst acc) := by rw [upd_ne (Ne.symm ne)]; exact eD2
        have kp1 : Kp H'' (upd H'' a (NumT P w a (us ++ [(.tuple l, b)]))) := .store fun u e => by
          rw [ea2] at e
          cases e
          exact ⟨(fun _ z => nomatch z), (fun _ _ z => nomatch z), fun ⟨_, z⟩ => nomatch z⟩
        refine ⟨eD3, same_mut (same_mut sH ha) fD, ne, ⟨us ++ [(.tuple l, b)], by rw [List.map_append, eus, eu]; rfl, ?_, fun x hx => ?_⟩, ?_⟩
        · rw [upd_ne ne, upd_same]
        · rcases List.mem_append.mp hx with hx | hx
          · exact ⟨((hus2 x hx).1.kp kp1).kp (.updL eD3), (hus2 x hx).2⟩
          · simp at hx
            subst hx
            exact ⟨(dx.kp kp1).kp (.updL eD3), kd⟩
        · rw [numbered_take_succ hk, eu, eacc]
          unfold vNats
          rw [List.map_append]
          congr 2
          rw [← eus] at hm ⊢
          rw [← List.length_map (f := (·.1)) (as := us)]
          exact congrArg (fun n : Nat => V.int (n : Int)) (idx_new hm).symm
    · obtain ⟨x, e, a', ks0, ex, ea, y, e2, h2⟩ := h
      refine ⟨x, e, a', ks0, ex, ea, y, e2, ?_⟩
      obtain ⟨z, e3, a'', ks1, e4, e5, e6, ks2, d2, b2, f1, f2, f3, f4, f5, f6, f7, f8, f9⟩ := h2
      exact ⟨z, e3, a'', ks1, e4, e5, e6, ks2, d2, b2, f1, f2, f3, f4, f5, f6, f7, fun m => k _ _ (f8 m), fun m => k _ _ (f9 m)⟩
    · rw [List.take_length] at eacc
      subst eacc
      exact q D H' (s1.trans s2 |>.free hD) s3 eD
end
end K96

set_option maxRecDepth 100000
set_option maxHeartbeats 2000000
/-! Dicts from whole numbers, lists compared with [], extend, append, min, enumerate, sorted(dict). -/
namespace KD
open PySem PySem.Spec PyProof.Rows L2

/-! ### plain: lists of pairs as dicts -/
section
variable {α β : Type}
def fnd (l : List (Nat × α)) (s : Nat) : Option α := (l.find? fun p => decide (p.1 = s)).map (·.2)
def putN (l : List (Nat × α)) (s : Nat) (v : α) : List (Nat × α) := if s ∈ l.map (·.1) then l.map (fun p => if p.1 = s then (p.1, v) else p) else l ++ [(s, v)]
def mapN (f : α → β) (l : List (Nat × α)) : List (Nat × β) := l.map fun p => (p.1, f p.2)
theorem fnd_nil (s : Nat) : fnd ([] : List (Nat × α)) s = none := rfl
theorem fnd_cons (p : Nat × α) (l : List (Nat × α)) (s : Nat) : fnd (p :: l) s = if p.1 = s then some p.2 else fnd l s := by
  unfold fnd
  rw [List.find?_cons]
  by_cases h : p.1 = s <;> simp [h]
theorem fnd_isSome {l : List (Nat × α)} {s : Nat} : (fnd l s).isSome = true ↔ s ∈ l.map (·.1) := by
  induction l with
  | nil => simp [fnd_nil]
  | cons p l ih =>
    rw [fnd_cons, List.map_cons, List.mem_cons]
    by_cases h : p.1 = s
    · simp [h]
    · rw [if_neg h, ih]
      exact ⟨.inr, fun z => z.resolve_left fun e => h e.symm⟩
theorem fnd_none {l : List (Nat × α)} {s : Nat} : fnd l s = none ↔ s ∉ l.map (·.1) := by
  rw [← fnd_isSome]
  cases fnd l s <;> simp
theorem fnd_mem {l : List (Nat × α)} {s : Nat} {v : α} (h : fnd l s = some v) : (s, v) ∈ l := by
  induction l with
  | nil => cases h
  | cons p l ih =>
    rw [fnd_cons] at h
    by_cases e : p.1 = s
    · rw [if_pos e] at h
      cases h
      subst e
      exact List.mem_cons_self
    · rw [if_neg e] at h
      exact List.mem_cons_of_mem _ (ih h)
theorem fnd_of {l : List (Nat × α)} {s : Nat} {v : α} (nd : (l.map (·.1)).Nodup) (h : (s, v) ∈ l) : fnd l s = some v := by
  induction l with
  | nil => simp at h
  | cons p l ih =>
    rw [List.map_cons, List.nodup_cons] at nd
    rw [fnd_cons]
    rcases List.mem_cons.mp h with e | h'
    · rw [← e]; simp
    · rw [if_neg, ih nd.2 h']
      intro e
      exact nd.1 (e ▸ List.mem_map.mpr ⟨(s, v), h', rfl⟩)
theorem fnd_mapN {f : α → β} {l : List (Nat × α)} {s : Nat} : fnd (mapN f l) s = (fnd l s).map f := by
  induction l with
  | nil => rfl
  | cons p l ih =>
    show fnd ((p.1, f p.2) :: mapN f l) s = _
    rw [fnd_cons, fnd_cons, ih]
    by_cases e : p.1 = s <;> simp [e]
theorem fnd_append {l k : List (Nat × α)} {s : Nat} : fnd (l ++ k) s = (fnd l s).or (fnd k s) := by
  induction l with
  | nil => simp [fnd_nil]
  | cons p l ih =>
    rw [List.cons_append, fnd_cons, fnd_cons, ih]
    by_cases e : p.1 = s <;> simp [e]
theorem keys_mapN {f : α → β} {l : List (Nat × α)} : (mapN f l).map (·.1) = l.map (·.1) := by
  unfold mapN
  rw [List.map_map]; rfl
theorem keys_putN {l : List (Nat × α)} {s : Nat} {v : α} : (putN l s v).map (·.1) = if s ∈ l.map (·.1) then l.map (·.1) else l.map (·.1) ++ [s] := by
  unfold putN
  by_cases h : s ∈ l.map (·.1)
  · rw [if_pos h, if_pos h, List.map_map]
    refine List.map_congr_left fun p _ => ?_
    simp only [Function.comp]
    split <;> rfl
  · rw [if_neg h, if_neg h, List.map_append]; rfl
theorem nodup_putN {l : List (Nat × α)} {s : Nat} {v : α} (nd : (l.map (·.1)).Nodup) : ((putN l s v).map (·.1)).Nodup := by
  rw [keys_putN]
  split
  · exact nd
  · rename_i h
    rw [List.nodup_append]
    refine ⟨nd, by simp, fun a ha b hb e => ?_⟩
    simp at hb
    exact h (hb ▸ e ▸ ha)
theorem fnd_putN {l : List (Nat × α)} {s t : Nat} {v : α} : fnd (putN l s v) t = if t = s then some v else fnd l t := by
  unfold putN
  by_cases h : s ∈ l.map (·.1)
  · rw [if_pos h]
    induction l with
    | nil => simp at h
    | cons p l ih =>
      rw [List.map_cons, fnd_cons, fnd_cons]
      by_cases e : p.1 = s
      · by_cases e2 : t = s
        · subst e2
          simp [e]
        · rw [if_neg e2]
          have e3 : ¬ p.1 = t := fun z => e2 (z.symm.trans e)
          simp only [e, if_true]
          rw [if_neg (fun z => e2 z.symm), if_neg (fun z => e2 z.symm)]
          clear ih h
          induction l with
          | nil => rfl
          | cons q l ih2 =>
            rw [List.map_cons, fnd_cons, fnd_cons, ih2]
            by_cases e4 : q.1 = s
            · have e5 : ¬ q.1 = t := fun z => e2 (z.symm.trans e4)
              rw [if_pos e4, if_neg e5, if_neg (by exact e5)]
            · simp only [e4, if_false]
      · have h' : s ∈ l.map (·.1) := by
          rw [List.map_cons] at h
          exact (List.mem_cons.mp h).resolve_left fun z => e z.symm
        simp only [e, if_false]
        rw [ih h']
        by_cases e2 : t = s
        · subst e2
          simp [e]
        · simp [e2]
  · rw [if_neg h, fnd_append, fnd_cons, fnd_nil]
    by_cases e2 : t = s
    · subst e2
      rw [fnd_none.mpr h]
      simp
    · rw [if_neg (fun z => e2 z.symm), if_neg e2]
      cases fnd l t <;> rfl
end
def kvN (l : List (Nat × V)) : List (Key × V) := l.map fun p => (.inl (p.1 : Int), p.2)
def vI (l : List (Nat × Int)) : List (Nat × V) := mapN V.int l
theorem valV_kvN (l : List (Nat × V)) (s : Nat) : valV (kvN l) (.inl (s : Int)) = fnd l s := by
  induction l with
  | nil => rfl
  | cons p l ih =>
    rw [fnd_cons]
    by_cases e : p.1 = s
    · rw [if_pos e]
      exact valV_pos (by show Sum.inl (p.1 : Int) = _; rw [e])
    · rw [if_neg e, ← ih]
      exact valV_neg (by
        show ¬ Sum.inl (p.1 : Int) = Sum.inl (s : Int)
        intro z
        have := Sum.inl.inj z
        omega)
theorem putK_kvN (l : List (Nat × V)) (s : Nat) (v : V) : putK (kvN l) (.inl (s : Int)) v = kvN (putN l s v) := by
  unfold putK putN
  rw [valV_any, valV_kvN]
  by_cases h : s ∈ l.map (·.1)
  · rw [if_pos (fnd_isSome.mpr h), if_pos h]
    unfold kvN
    rw [List.map_map, List.map_map]
    refine List.map_congr_left fun p _ => ?_
    simp only [Function.comp]
    by_cases e : p.1 = s
    · rw [if_pos (by rw [e]), if_pos e]
    · rw [if_neg, if_neg e]
      intro z
      have := Sum.inl.inj z
      omega
  · rw [if_neg (fun z => h (fnd_isSome.mp z)), if_neg h]
    unfold kvN
    rw [List.map_append]; rfl
section
variable {K : PySem.W.Frag} {H H' : Hp} {σ : L2.St} {te ta td ty tv tb : TE} {d e f : PyData} {D : Ends} {u : TS}
abbrev Ref (te : TE) (σ : L2.St) (H : Hp) (p : Addr) : Prop := ∀ H1, Same H H1 → ∀ Q : VK, (∀ H2, Same H1 H2 → Q (.ref p) H2) → te σ H1 Q
theorem evd_dget {a : Addr} {l : List (Nat × V)} {s : Nat} {v : V} (hr : Rd H a (.dK (kvN l))) (hd : Ref td σ H a) (hy : EvD K ty σ H (.int s)) (h : fnd l s = some v) (hv : Dq K H v f) : EvD K (tDGet td ty) σ H f := fun H1 s1 Q q =>
  hd H1 s1 _ fun H2 s2 => hy.run (s1.trans s2) fun y H3 s3 p3 => by
    cases p3
    have s03 := (s1.trans s2).trans s3
    exact ⟨a, v, rfl, .inl ⟨kvN l, .inl (s : Int), rd_same s03 hr, rfl, by rw [valV_kvN, h]⟩, q v H3 _ (s2.trans s3) (hv.mono s03) rfl⟩
theorem evd_din {a : Addr} {l : List (Nat × V)} {s : Nat} (hr : Rd H a (.dK (kvN l))) (hd : Ref td σ H a) (hy : EvD K ty σ H (.int s)) : EvD K (tDIn ty td) σ H (.bool (fnd l s).isSome) := fun H1 s1 Q q =>
  hy.run s1 fun y H2 s2 p2 => hd H2 (s1.trans s2) _ fun H3 s3 => by
    cases p2
    have s03 := (s1.trans s2).trans s3
    exact ⟨a, fnd l s, rfl, .inl ⟨kvN l, .inl (s : Int), rd_same s03 hr, rfl, (valV_kvN l s).symm⟩, q _ H3 _ (s2.trans s3) (.bl _) rfl⟩
theorem evd_dnotin {a : Addr} {l : List (Nat × V)} {s : Nat} (hr : Rd H a (.dK (kvN l))) (hd : Ref td σ H a) (hy : EvD K ty σ H (.int s)) : EvD K (tDNotIn ty td) σ H (.bool (!(fnd l s).isSome)) := fun H1 s1 Q q =>
  hy.run s1 fun y H2 s2 p2 => hd H2 (s1.trans s2) _ fun H3 s3 => by
    cases p2
    have s03 := (s1.trans s2).trans s3
    exact ⟨a, fnd l s, rfl, .inl ⟨kvN l, .inl (s : Int), rd_same s03 hr, rfl, (valV_kvN l s).symm⟩, q _ H3 _ (s2.trans s3) (.bl _) rfl⟩
theorem evs_dput {a : Addr} {l : List (Nat × V)} {s : Nat} (ha : H a = some (.dK (kvN l))) (hl : l.length ≤ 100000) (hv : EvD K tv σ H f) (hd : Ref td σ H a) (hy : EvD K ty σ H (.int s)) (q : ∀ v H1, Same H H1 → Dq K H1 v f → D.nx σ (upd H1 a (.dK (kvN (putN l s v))))) :
    sDPut td ty tv D σ H := hv.use _ fun v H1 s1 p1 => hd H1 s1 _ fun H2 s2 => hy.run (s1.trans s2) fun y H3 s3 p3 => by
  cases p3
  have s03 := (s1.trans s2).trans s3
  refine ⟨a, _, rfl, .inl ⟨kvN l, .inl (s : Int), s03 _ _ ha, rfl, ?_, rfl⟩, ?_⟩
  · unfold kvN
    rw [List.length_map]
    exact Nat.lt_of_le_of_lt hl (by decide)
  · rw [putK_kvN]
    exact q v H3 s03 (p1.mono (s2.trans s3))
theorem evq_dput {a : Addr} {l : List (Nat × V)} {s : Nat} (ha : H a = some (.dK (kvN l))) (hl : l.length ≤ 100000) (hv : EvD K tv σ H f) (hd : Ref td σ H a) (hy : EvD K ty σ H (.int s)) (q : ∀ v H1, Same H H1 → Dq K H1 v f → u D σ (upd H1 a (.dK (kvN (putN l s v))))) :
    tSeq (sDPut td ty tv) u D σ H := evs_dput (D := { D with nx := u D }) ha hl hv hd hy q
/-- a list against [] -/
theorem evd_neNil {n : Nat} {p : Addr} {xs : List V} {ds : List PyData} (hs : SqL K H p xs) (hd : DqAll K H xs ds) (hg : ∀ d ∈ ds, K96.Good n d) (hn : n + 2 ≤ 64) (ha : Ref ta σ H p) : EvD K (tOp (rNeD K) ta (tLst tNil)) σ H (.bool (!decide (ds = []))) := fun H1 s1 Q q =>
  ha H1 s1 _ fun H2 s2 => (evl_lst (eva_nil (K := K)) (by simp)) H2 (Same.refl _) _ fun p2 xs2 H3 hp2 s3 e3 d3 => by
    cases d3
    have s03 := (s1.trans s2).trans s3
    have sh : SeqAt.shaped (.list ds) = true := by
      show (PyData.canLay0 (.list ds) && decide ((PyData.list ds).depth ≤ 64)) = true
      have d1 := K96.depAll_of fun d hd => (hg d hd).dep
      have d2 : (PyData.list ds).depth ≤ 64 := by
        show PyData.depthAll ds + 1 ≤ 64
        omega
      rw [decide_eq_true d2, Bool.and_true]
      simp only [PyData.canLay0]
      exact K96.layAll_of fun d hd => (hg d hd).lay
    refine ⟨.list ds, .list [], .lst (sqL_same s03 hs) (dqAll_dp ds _ (K96.flatAll_of fun d hd => (hg d hd).flat) (hd.mono s03)), .lst (.inl (.inl e3)) .nil, sh, by decide +kernel, ?_⟩
    have : PyData.eqv (.list ds) (.list []) = decide (ds = []) := by
      cases ds <;> simp [PyData.eqv, PyData.eqvAll]
    rw [this]
    exact q _ H3 _ (s2.trans s3) (.bl _) rfl
theorem evd_eqNil {n : Nat} {p : Addr} {xs : List V} {ds : List PyData} (hs : SqL K H p xs) (hd : DqAll K H xs ds) (hg : ∀ d ∈ ds, K96.Good n d) (hn : n + 2 ≤ 64) (ha : Ref ta σ H p) : EvD K (tOp (rEqD K) ta (tLst tNil)) σ H (.bool (decide (ds = []))) := fun H1 s1 Q q =>
  ha H1 s1 _ fun H2 s2 => (evl_lst (eva_nil (K := K)) (by simp)) H2 (Same.refl _) _ fun p2 xs2 H3 hp2 s3 e3 d3 => by
    cases d3
    have s03 := (s1.trans s2).trans s3
    have sh : SeqAt.shaped (.list ds) = true := by
      show (PyData.canLay0 (.list ds) && decide ((PyData.list ds).depth ≤ 64)) = true
      have d1 := K96.depAll_of fun d hd => (hg d hd).dep
      have d2 : (PyData.list ds).depth ≤ 64 := by
        show PyData.depthAll ds + 1 ≤ 64
        omega
      rw [decide_eq_true d2, Bool.and_true]
      simp only [PyData.canLay0]
      exact K96.layAll_of fun d hd => (hg d hd).lay
    refine ⟨.list ds, .list [], .lst (sqL_same s03 hs) (dqAll_dp ds _ (K96.flatAll_of fun d hd => (hg d hd).flat) (hd.mono s03)), .lst (.inl (.inl e3)) .nil, sh, by decide +kernel, ?_⟩
    have : PyData.eqv (.list ds) (.list []) = decide (ds = []) := by
      cases ds <;> simp [PyData.eqv, PyData.eqvAll]
    rw [this]
    exact q _ H3 _ (s2.trans s3) (.bl _) rfl
theorem EvL.ref_eqNil {n : Nat} {ds : List PyData} (h : EvL K ta σ H ds) (hg : ∀ d ∈ ds, K96.Good n d) (hn : n + 2 ≤ 64) : EvD K (tOp (rEqD K) ta (tLst tNil)) σ H (.bool (decide (ds = []))) := fun H1 s1 Q q =>
  h H1 s1 _ fun p xs H2 hp s2 e2 d2 => by
    have z := evd_eqNil (σ := σ) (ta := tC (.ref p)) (.inl (.inl e2)) d2 hg hn (fun H1 _ Q q => q H1 (Same.refl H1))
    exact z H2 (Same.refl _) (fun v H' => Q v H') fun v H3 r s3 p3 e3 => q v H3 r (s2.trans s3) p3 e3
theorem EvL.ref_neNil {n : Nat} {ds : List PyData} (h : EvL K ta σ H ds) (hg : ∀ d ∈ ds, K96.Good n d) (hn : n + 2 ≤ 64) : EvD K (tOp (rNeD K) ta (tLst tNil)) σ H (.bool (!decide (ds = []))) := fun H1 s1 Q q =>
  h H1 s1 _ fun p xs H2 hp s2 e2 d2 => by
    have z := evd_neNil (σ := σ) (ta := tC (.ref p)) (.inl (.inl e2)) d2 hg hn (fun H1 _ Q q => q H1 (Same.refl H1))
    exact z H2 (Same.refl _) (fun v H' => Q v H') fun v H3 r s3 p3 e3 => q v H3 r (s2.trans s3) p3 e3
/-- min, max of a list of ints -/
def IsMin (ns : List Int) (m : Int) : Prop := m ∈ ns ∧ ∀ y ∈ ns, m ≤ y
def IsMax (ns : List Int) (m : Int) : Prop := m ∈ ns ∧ ∀ y ∈ ns, y ≤ m
theorem evp_minLs {p : Addr} {ns : List Int} (hs : SqL K H p (ns.map V.int)) (h0 : ns ≠ []) (ha : Ref te σ H p) : EvP K (tCB (rMin K) (tCons te tNil)) σ H (fun r => ∃ m, r = .int m ∧ IsMin ns m) := fun H1 s1 Q q => ha H1 s1 _ fun H2 s2 =>
  ⟨p, ns, rfl, sqL_same (s1.trans s2) hs, List.length_pos_iff.mpr h0, fun m h1 h2 => q _ H2 (.int m) s2 (.int m) ⟨m, rfl, h1, h2⟩⟩
theorem evp_minL {ns : List Int} (h : EvL K te σ H (ns.map .int)) (h0 : ns ≠ []) : EvP K (tCB (rMin K) (tCons te tNil)) σ H (fun r => ∃ m, r = .int m ∧ IsMin ns m) := fun H1 s1 Q q => h H1 s1 _ fun p xs H2 hp s2 e2 d2 => by
  have := d2.of_ints
  subst this
  exact ⟨p, ns, rfl, .inl (.inl e2), List.length_pos_iff.mpr h0, fun m h1 h2 => q _ H2 (.int m) s2 (.int m) ⟨m, rfl, h1, h2⟩⟩
theorem evp_maxL {ns : List Int} (h : EvL K te σ H (ns.map .int)) (h0 : ns ≠ []) : EvP K (tCB (rMax K) (tCons te tNil)) σ H (fun r => ∃ m, r = .int m ∧ IsMax ns m) := fun H1 s1 Q q => h H1 s1 _ fun p xs H2 hp s2 e2 d2 => by
  have := d2.of_ints
  subst this
  exact ⟨p, ns, rfl, .inl (.inl e2), List.length_pos_iff.mpr h0, fun m h1 h2 => q _ H2 (.int m) s2 (.int m) ⟨m, rfl, h1, h2⟩⟩
/-- l.append(e), l.extend(e) as statements -/
theorem evq_append {p : Addr} {xs : List V} (hp : H p = some (.lst xs)) (hl : xs.length ≤ 100000) (ha : Ref ta σ H p) (h : EvD K te σ H d) (q : ∀ v H1, Same H H1 → Dq K H1 v d → u D σ (upd H1 p (.lst (xs ++ [v])))) : tSeq (tDrop (tBM K "list" rAppend ta (tCons te tNil))) u D σ H :=
  ha H (Same.refl H) _ fun H1 s1 => ⟨.inl ⟨rfl, xs, .inl (.inl (s1 _ _ hp))⟩, h.run s1 fun v H2 s2 p2 => ⟨p, xs, v, rfl, rfl, s2 _ _ (s1 _ _ hp), len100 hl, q v H2 (s1.trans s2) p2⟩⟩
theorem evs_append {p : Addr} {xs : List V} (hp : H p = some (.lst xs)) (hl : xs.length ≤ 100000) (ha : Ref ta σ H p) (h : EvD K te σ H d) (q : ∀ v H1, Same H H1 → Dq K H1 v d → D.nx σ (upd H1 p (.lst (xs ++ [v])))) : tDrop (tBM K "list" rAppend ta (tCons te tNil)) D σ H :=
  ha H (Same.refl H) _ fun H1 s1 => ⟨.inl ⟨rfl, xs, .inl (.inl (s1 _ _ hp))⟩, h.run s1 fun v H2 s2 p2 => ⟨p, xs, v, rfl, rfl, s2 _ _ (s1 _ _ hp), len100 hl, q v H2 (s1.trans s2) p2⟩⟩
theorem evq_extend {p : Addr} {xs : List V} {ds : List PyData} (hp : H p = some (.lst xs)) (hl : xs.length + ds.length ≤ 100000) (ha : Ref ta σ H p) (h : EvL K te σ H ds) (q : ∀ zs H1, Same H H1 → DqAll K H1 zs ds → u D σ (upd H1 p (.lst (xs ++ zs)))) : tSeq (tDrop (tBM K "list" rExtend ta (tCons te tNil))) u D σ H :=
  ha H (Same.refl H) _ fun H1 s1 => ⟨.inl ⟨rfl, xs, .inl (.inl (s1 _ _ hp))⟩, h H1 s1 _ fun b zs H2 hb s2 e2 d2 => ⟨p, b, xs, zs, rfl, rfl, s2 _ _ (s1 _ _ hp), e2, by rw [d2.length, sizeLine_eq]; omega, q zs H2 (s1.trans s2) d2⟩⟩
theorem evs_extend {p : Addr} {xs : List V} {ds : List PyData} (hp : H p = some (.lst xs)) (hl : xs.length + ds.length ≤ 100000) (ha : Ref ta σ H p) (h : EvL K te σ H ds) (q : ∀ zs H1, Same H H1 → DqAll K H1 zs ds → D.nx σ (upd H1 p (.lst (xs ++ zs)))) : tDrop (tBM K "list" rExtend ta (tCons te tNil)) D σ H :=
  ha H (Same.refl H) _ fun H1 s1 => ⟨.inl ⟨rfl, xs, .inl (.inl (s1 _ _ hp))⟩, h H1 s1 _ fun b zs H2 hb s2 e2 d2 => ⟨p, b, xs, zs, rfl, rfl, s2 _ _ (s1 _ _ hp), e2, by rw [d2.length, sizeLine_eq]; omega, q zs H2 (s1.trans s2) d2⟩⟩
/-- enumerate(tuple) -/
def enumD (ds : List PyData) : List PyData := (List.range ds.length).map fun i => .tuple [.int (i : Nat), ds.getD i .none]
theorem enumD_get {ds : List PyData} {i : Nat} {d : PyData} (h : ds[i]? = some d) : (enumD ds)[i]? = some (.tuple [.int (i : Nat), d]) := by
  have hi := (List.getElem?_eq_some_iff.mp h).1
  unfold enumD
  rw [List.getElem?_map, List.getElem?_range hi]
  have : ds.getD i .none = d := by rw [List.getD_eq_getElem?_getD, h]; rfl
  show some (PyData.tuple [.int (i : Nat), ds.getD i .none]) = _
  rw [this]
theorem enumD_length {ds : List PyData} : (enumD ds).length = ds.length := by simp [enumD]
theorem evi_enumT {ds : List PyData} (h : EvD K te σ H (.tuple ds)) : EvI Kp K (iEnumT K (tCons te tNil)) σ H (enumD ds) := fun H1 s R q => h.run s fun v H2 s2 p2 => by
  obtain ⟨a, xs, rfl, h1, h2⟩ := p2.tupE
  refine ⟨a, xs, rfl, h1, q _ H2 s2 ⟨fun H' k => ?_, fun i d H' e k => ?_, fun i d x H' H'' e k y => ?_⟩⟩
  · exact ⟨xs, sqT_kp k h1, by rw [h2.length, enumD_length]; exact Nat.le_refl _⟩
  · have hi := (List.getElem?_eq_some_iff.mp e).1
    rw [enumD_length] at hi
    obtain ⟨v, hv, _⟩ := h2.get (List.getElem?_eq_getElem hi)
    exact ⟨xs, v, sqT_kp k h1, hv⟩
  · have hi := (List.getElem?_eq_some_iff.mp e).1
    rw [enumD_length] at hi
    have he := List.getElem?_eq_getElem hi
    rw [enumD_get he] at e
    cases e
    obtain ⟨v, hv, hp⟩ := h2.get he
    obtain ⟨T, x', rfl, hT, rfl, z⟩ := y
    have ex : x' = v := Option.some.inj ((z xs (sqT_kp k h1)).symm.trans hv)
    subst ex
    have sm := same_new (o := .tup [.int (i : Nat), x']) hT
    exact ⟨sm, .tup (.inl (.inl upd_same)) (.cons (.int _) (.one ((hp.kp k).mono sm)))⟩
/-- sorted(d), keys whole numbers -/
def rSortDI : List V → Hp → VK → Prop := fun xs H Q => ∃ (a : Addr) (kvs : List (Key × V)) (ks : List Int), xs = [.ref a] ∧ Rd H a (.dK kvs) ∧ kvs.map (·.1) = ks.map Sum.inl ∧ ks.length < 64 ∧
    ∀ (ys : List Int) (p : Addr), ys.Perm ks → ys.Pairwise (· ≤ ·) → H p = none → Q (.ref p) (upd H p (.lst (ys.map V.int)))
theorem kSortDI {X : Cx} (hc : X.calm = true := by rfl) : CallR X (.builtin "sorted") rSortDI := call_sortedDI hc
end
end KD

/-! least rests: a fixpoint is the rests; a step keeps what is known and makes a number smaller -/
namespace Ladm
open KD
def cands (row : List Ent) (found : List (Nat × Int)) : List Int := row.filterMap fun e => e.bind fun x => (fnd found x.2).map (x.1 + ·)
def cand (c : Option Int) (row : List Ent) (found : List (Nat × Int)) : List Int := c.toList ++ cands row found
structure Known (E : ES) (F : FS) (n : Nat) (B : Int) (found : List (Nat × Int)) : Prop where
  nd : (found.map (·.1)).Nodup
  lt : ∀ s ∈ found.map (·.1), s < n
  snd : ∀ s r, fnd found s = some r → (∃ w, run E F s w = some r) ∧ 0 ≤ r ∧ r ≤ found.length * B
def FixAt (E : ES) (F : FS) (found : List (Nat × Int)) (s : Nat) : Prop :=
  (∀ c, F s = some c → ∃ r, fnd found s = some r ∧ r ≤ c) ∧ ∀ a p t r, E s a = some (p, t) → fnd found t = some r → ∃ r', fnd found s = some r' ∧ r' ≤ p + r
theorem fix_rest {E : ES} {F : FS} {n : Nat} {B : Int} {found : List (Nat × Int)} (h : Known E F n B found) (hf : ∀ s, s < n → FixAt E F found s) (hin : ∀ s a p t, s < n → E s a = some (p, t) → t < n) (hout : ∀ s, n ≤ s → (∀ a, E s a = none) ∧ F s = none) (s : Nat) : Rest E F s (fnd found s) := by
  have key : ∀ (w : List Nat) (s : Nat) (c : Int), run E F s w = some c → ∃ r, fnd found s = some r ∧ r ≤ c := by
    intro w
    induction w with
    | nil =>
      intro s c e
      by_cases hs : s < n
      · exact (hf s hs).1 c e
      · have := (hout s (by omega)).2
        rw [run_nil, this] at e; cases e
    | cons a w ih =>
      intro s c e
      cases k : E s a with
      | none => rw [run_none k] at e; cases e
      | some pt =>
        obtain ⟨p, t⟩ := pt
        by_cases hs : s < n
        · rw [run_some k] at e
          cases k2 : run E F t w with
          | none => rw [k2] at e; cases e
          | some c' =>
            rw [k2] at e
            obtain ⟨r, h1, h2⟩ := ih t c' k2
            obtain ⟨r', h3, h4⟩ := (hf s hs).2 a p t r k h1
            have : p + c' = c := by simpa using e
            exact ⟨r', h3, by omega⟩
        · rw [(hout s (by omega)).1 a] at k; cases k
  cases k : fnd found s with
  | none =>
    intro w
    cases e : run E F s w with
    | none => rfl
    | some c =>
      obtain ⟨r, h1, _⟩ := key w s c e
      rw [k] at h1; cases h1
  | some r =>
    refine ⟨(h.snd s r k).1, fun w c e => ?_⟩
    obtain ⟨r', h1, h2⟩ := key w s c e
    rw [k] at h1
    cases h1
    exact h2
theorem mem_cands {row : List Ent} {found : List (Nat × Int)} {c : Int} : c ∈ cands row found ↔ ∃ p t r, some (p, t) ∈ row ∧ fnd found t = some r ∧ p + r = c := by
  unfold cands
  rw [List.mem_filterMap]
  constructor
  · rintro ⟨e, he, h⟩
    cases e with
    | none => cases h
    | some x =>
      obtain ⟨p, t⟩ := x
      simp only [Option.bind_some, Option.map_eq_some_iff] at h
      obtain ⟨r, h1, h2⟩ := h
      exact ⟨p, t, r, he, h1, h2⟩
  · rintro ⟨p, t, r, h1, h2, h3⟩
    exact ⟨some (p, t), h1, by simp [h2, h3]⟩
theorem sum_lt {n s : Nat} {f g : Nat → Nat} (hs : s < n) (h : ∀ t, t ≠ s → f t = g t) (hl : f s < g s) : ((List.range n).map f).sum < ((List.range n).map g).sum := by
  induction n with
  | zero => omega
  | succ n ih =>
    rw [List.range_succ, List.map_append, List.map_append, List.sum_append, List.sum_append]
    by_cases c : s = n
    · subst c
      have : (List.range s).map f = (List.range s).map g := List.map_congr_left fun t ht => h t (by have := List.mem_range.mp ht; omega)
      rw [this]
      simp
      exact hl
    · have := ih (by omega)
      rw [List.map_cons, List.map_nil, List.map_cons, List.map_nil, h n (fun z => c z.symm)]
      omega
def phi (n : Nat) (M : Nat) (found : List (Nat × Int)) (s : Nat) : Nat := match fnd found s with
  | none => M + 1
  | some r => r.toNat
def Phi (n : Nat) (M : Nat) (found : List (Nat × Int)) : Nat := ((List.range n).map (phi n M found)).sum
theorem length_keys_le {α : Type} {l : List (Nat × α)} {n : Nat} (nd : (l.map (·.1)).Nodup) (h : ∀ s ∈ l.map (·.1), s < n) : l.length ≤ n := by
  have := nodup_lt nd h
  rwa [List.length_map] at this
/-- the rows as lists -/
structure RowsOf (E : ES) (F : FS) (n : Nat) (B : Int) (row : Nat → List Ent) : Prop where
  b0 : 0 ≤ B
  ent : ∀ s a, s < n → E s a = ((row s)[a]?).getD none
  pr : ∀ s p t, s < n → some (p, t) ∈ row s → 0 ≤ p ∧ p ≤ B ∧ t < n
  tip : ∀ s c, s < n → F s = some c → 0 ≤ c ∧ c ≤ B
theorem row_ent {E : ES} {F : FS} {n : Nat} {B : Int} {row : Nat → List Ent} (R : RowsOf E F n B row) {s : Nat} {p : Int} {t : Nat} (hs : s < n) (h : some (p, t) ∈ row s) : ∃ a, E s a = some (p, t) := by
  obtain ⟨a, ha⟩ := List.mem_iff_getElem?.mp h
  exact ⟨a, by rw [R.ent s a hs, ha]; rfl⟩
theorem ent_row {E : ES} {F : FS} {n : Nat} {B : Int} {row : Nat → List Ent} (R : RowsOf E F n B row) {s a : Nat} {p : Int} {t : Nat} (hs : s < n) (h : E s a = some (p, t)) : some (p, t) ∈ row s := by
  rw [R.ent s a hs] at h
  cases e : (row s)[a]? with
  | none => rw [e] at h; cases h
  | some x =>
    rw [e] at h
    have : x = some (p, t) := h
    rw [this] at e
    exact List.mem_of_getElem? e
/-- nothing new at s -/
theorem fix_at {E : ES} {F : FS} {n : Nat} {B : Int} {row : Nat → List Ent} (R : RowsOf E F n B row) {found : List (Nat × Int)} {s : Nat} (hs : s < n) (h : cand (F s) (row s) found = [] ∨ ∃ r m, fnd found s = some r ∧ IsMin (cand (F s) (row s) found) m ∧ r ≤ m) : FixAt E F found s := by
  have key : ∀ c ∈ cand (F s) (row s) found, ∃ r, fnd found s = some r ∧ r ≤ c := fun c hc => by
    rcases h with h | ⟨r, m, h1, h2, h3⟩
    · rw [h] at hc; simp at hc
    · exact ⟨r, h1, Int.le_trans h3 (h2.2 c hc)⟩
  refine ⟨fun c hc => key c ?_, fun a p t r he hr => key (p + r) ?_⟩
  · unfold cand
    rw [hc]
    exact List.mem_append_left _ (by simp)
  · unfold cand
    exact List.mem_append_right _ (mem_cands.mpr ⟨p, t, r, ent_row R hs he, hr, rfl⟩)
theorem known_put {E : ES} {F : FS} {n : Nat} {B : Int} {row : Nat → List Ent} (R : RowsOf E F n B row) {found : List (Nat × Int)} (K : Known E F n B found) {s : Nat} {m : Int} (hs : s < n) (hm : IsMin (cand (F s) (row s) found) m) (hn : ∀ r, fnd found s = some r → m < r) {M : Nat} (hM : (M : Int) = n * B) :
    Known E F n B (putN found s m) ∧ Phi n M (putN found s m) < Phi n M found := by
  have ln := length_keys_le K.nd K.lt
  have hval : (∃ w, run E F s w = some m) ∧ 0 ≤ m ∧ m ≤ (found.length + 1 : Nat) * B := by
    have := hm.1
    unfold cand at this
    rcases List.mem_append.mp this with h | h
    · have hc : F s = some m := by
        cases e : F s with
        | none => rw [e] at h; simp at h
        | some c => rw [e] at h; simp at h; rw [h]
      have b := R.tip s m hs hc
      refine ⟨⟨[], hc⟩, b.1, ?_⟩
      have : (0 : Int) ≤ found.length * B := Int.mul_nonneg (by omega) R.b0
      rw [Int.natCast_add, Int.add_mul]
      simp
      omega
    · obtain ⟨p, t, r, h1, h2, h3⟩ := mem_cands.mp h
      have b := R.pr s p t hs h1
      obtain ⟨⟨w, hw⟩, r0, r1⟩ := K.snd t r h2
      obtain ⟨a, ha⟩ := row_ent R hs h1
      refine ⟨⟨a :: w, by rw [run_some ha, hw]; simp [h3]⟩, by omega, ?_⟩
      rw [Int.natCast_add, Int.add_mul]
      simp
      omega
  have len : (putN found s m).length = if s ∈ found.map (·.1) then found.length else found.length + 1 := by
    have := congrArg List.length (keys_putN (l := found) (s := s) (v := m))
    rw [List.length_map] at this
    rw [this]
    split <;> simp
  have lenle : found.length ≤ (putN found s m).length := by rw [len]; split <;> omega
  refine ⟨⟨nodup_putN K.nd, fun t ht => ?_, fun t r hr => ?_⟩, ?_⟩
  · rw [keys_putN] at ht
    split at ht
    · exact K.lt t ht
    · rcases List.mem_append.mp ht with h | h
      · exact K.lt t h
      · simp at h; omega
  · rw [fnd_putN] at hr
    by_cases c : t = s
    · rw [if_pos c] at hr
      cases hr
      subst c
      refine ⟨hval.1, hval.2.1, ?_⟩
      rw [len]
      split
      · rename_i hmem
        cases e : fnd found t with
        | none => exact absurd hmem (fnd_none.mp e)
        | some r =>
          have := hn r e
          have := (K.snd t r e).2.2
          omega
      · exact hval.2.2
    · rw [if_neg c] at hr
      obtain ⟨h1, h2, h3⟩ := K.snd t r hr
      refine ⟨h1, h2, Int.le_trans h3 ?_⟩
      exact Int.mul_le_mul_of_nonneg_right (by omega) R.b0
  · refine sum_lt hs (fun t ht => ?_) ?_
    · unfold phi
      rw [fnd_putN, if_neg ht]
    · unfold phi
      rw [fnd_putN, if_pos rfl]
      have m0 := hval.2.1
      cases e : fnd found s with
      | none =>
        show m.toNat < M + 1
        have nin := fnd_none.mp e
        have l1 : found.length + 1 ≤ n := by
          have nd2 : (s :: found.map (·.1)).Nodup := List.nodup_cons.mpr ⟨nin, K.nd⟩
          have := nodup_lt nd2 (n := n) fun x hx => by
            rcases List.mem_cons.mp hx with h | h
            · omega
            · exact K.lt x h
          simpa using this
        have : ((found.length + 1 : Nat) : Int) * B ≤ n * B := Int.mul_le_mul_of_nonneg_right (by omega) R.b0
        have := hval.2.2
        omega
      | some r =>
        show m.toNat < r.toNat
        have := hn r e
        omega
theorem known_nil {E : ES} {F : FS} {n : Nat} {B : Int} : Known E F n B [] := ⟨List.nodup_nil, fun s h => by simp at h, fun s r h => by cases h⟩
end Ladm

set_option maxRecDepth 100000
set_option maxHeartbeats 2000000
/-! early_entry, least_rests -/
namespace K96
open PySem PySem.Spec PyProof.Rows L2 KD Ladm
section
variable {K : PySem.W.Frag} {H : Hp} {σ : L2.St} {te ta tb : TE} {tt : TT} {a b : PyData} {x : V} {Q : L2.St → Hp → Prop}
theorem g2 {i j : Nat} (h : Dq K H x (.tuple [a, b])) (q : ∀ u v, Dq K H u a → Dq K H v b → Q ((σ.set i (some u)).set j (some v)) H) : gTup K 2 (gCons (gName i) (gCons (gName j) gNil)) x σ H Q := by
  obtain ⟨p, xs, rfl, h1, h2⟩ := h.tupE
  obtain ⟨u, v, rfl, k1, k2⟩ := h2.two
  exact ⟨p, _, rfl, h1, rfl, u, [v], rfl, v, [], rfl, rfl, q u v k1 k2⟩
theorem evl_if {c : Bool} {ds : List PyData} (h : EvB tt σ H c) (h1 : c = true → EvL K ta σ H ds) (h2 : c = false → EvL K tb σ H ds) : EvL K (tIf tt ta tb) σ H ds := fun H1 s Q q => h H1 s _ fun H2 s2 => by
  cases c with
  | true => exact iteT (h1 rfl H2 (s.trans s2) Q fun p xs H3 hp s3 e3 d3 => q p xs H3 (s2.free hp) (s2.trans s3) e3 d3)
  | false => exact iteF (h2 rfl H2 (s.trans s2) Q fun p xs H3 hp s3 e3 d3 => q p xs H3 (s2.free hp) (s2.trans s3) e3 d3)
theorem isMin_uniq {ns : List Int} {m m' : Int} (h : IsMin ns m) (h' : IsMin ns m') : m = m' := by
  have := h.2 m' h'.1
  have := h'.2 m h.1
  omega
theorem isMax_uniq {ns : List Int} {m m' : Int} (h : IsMax ns m) (h' : IsMax ns m') : m = m' := by
  have := h.2 m' h'.1
  have := h'.2 m h.1
  omega
theorem isMin_ex : ∀ (ns : List Int), ns ≠ [] → ∃ m, IsMin ns m
  | [], h => absurd rfl h
  | [n], _ => ⟨n, by simp, fun y hy => by simp at hy; omega⟩
  | n :: k :: ns, _ => by
    obtain ⟨m, h1, h2⟩ := isMin_ex (k :: ns) (by simp)
    by_cases c : n ≤ m
    · exact ⟨n, by simp, fun y hy => by
        rcases List.mem_cons.mp hy with e | e
        · omega
        · have := h2 y e; omega⟩
    · exact ⟨m, List.mem_cons_of_mem _ h1, fun y hy => by
        rcases List.mem_cons.mp hy with e | e
        · omega
        · exact h2 y e⟩
theorem evd_minLs {p : Addr} {ns : List Int} {m : Int} (hs : SqL K H p (ns.map V.int)) (hm : IsMin ns m) (ha : Ref te σ H p) : EvD K (tCB (rMin K) (tCons te tNil)) σ H (.int m) :=
  (evp_minLs hs (fun z => by rw [z] at hm; exact absurd hm.1 (by simp)) ha).imp fun r ⟨m', e, h⟩ => by rw [e, isMin_uniq h hm]
end
def earlyEnt (e : Ent) (own : Int) (R : FS) : Ent := e.bind fun x => (R x.2).map fun r => (x.1 + r - own, x.2)
theorem earlyE_ent (E : ES) (R : FS) (s a : Nat) : earlyE E R s a = earlyEnt (E s a) ((R s).getD 0) R := by
  unfold earlyE earlyEnt
  cases E s a with
  | none => rfl
  | some x => rfl
theorem ints_int (ns : List Int) : ns.map PyData.int = (ns.map PyData.int) := rfl
section
variable {P : Program} {w : World} {K : PySem.W.Frag} {mg : Str → Option Value} {base : Heap}
def spEarlyEntry (K : PySem.W.Frag) : Sp := fun vs H Q _ => ∃ (x : V) (e : Ent) (own : Int) (a : Addr) (found : List (Nat × Int)), vs = [x, .int own, .ref a] ∧ Dq K H x (entD e) ∧ Rd H a (.dK (kvN (vI found))) ∧
  ∀ v H', Same H H' → Dq K H' v (entD (earlyEnt e own (fnd found))) → Q v H'
theorem ok_early_entry (T : Txt K mg) : FnOk P w K mg base CX0 1 T.A_early_entry.f T.A_early_entry.d ["entry", "own", "rests"] (spEarlyEntry K) := by
  refine T.A_early_entry.F.ok sc_early_entry (fun vs H Q E h => ?_) (fun cdv A outer s H vs Q E hr h => ?_)
  · obtain ⟨_, _, _, _, _, rfl, _⟩ := h; rfl
  · obtain ⟨x, e, own, a, found, rfl, hx, hR, q⟩ := h
    refine ⟨_, ((pss_cons (ps_if (PW.pt (pw_or (pt_cmpR op_isN (pv 0) pe_non (nomark _)) (pw_or1 (pt_cmp (pc_dnotin (hu_of hr) (pe_ix (kIxT (K := K)) (pv 0) pe_int (fun _ _ => rfl)) (pv 2)))))) (pss_one (ps_ret pe_non)) pss_nil)
  (pss_one (ps_ret (pe_tup (pa_cons (pe_op op_sub (pe_op op_add (pe_ix (kIxT (K := K)) (pv 0) pe_int (fun _ _ => rfl)) (pe_dget (hu_of hr) (pv 2) (pe_ix (kIxT (K := K)) (pv 0) pe_int (fun _ _ => rfl)) (fun _ _ => rfl))) (pv 1)) (pa_cons (pe_ix (kIxT (K := K)) (pv 0) pe_int (fun _ _ => rfl)) pa_nil))))))), ?_⟩
    have hn : ∀ H1, Same H H1 → EvB (tTest (tOp rIsN (tVar 0) (tC .non))) [some x, some (.int own), some (.ref a)] H1 (isNone (entD e)) := fun H1 s1 => evb_test (evd_isN (evd_v 0 rfl (hx.mono s1)))
    cases e with
    | none =>
      refine evq_ifn (b := true) (evb_is (evb_or (a := true) (b := true) (hn H (Same.refl _)) fun z => nomatch z) rfl) (fun _ H1 s1 => ?_) fun z => nomatch z
      exact evs_retD (K := K) evd_non fun v H2 s2 p2 => q v H2 (s1.trans s2) p2
    | some pt =>
      obtain ⟨p, t⟩ := pt
      have e1 : ∀ H1, Same H H1 → EvD K (tOp (rIxT K) (tVar 0) (tC (.int 1))) [some x, some (.int own), some (.ref a)] H1 (.int (t : Nat)) := fun H1 s1 => evd_ixT (i := 1) (evd_v 0 rfl (hx.mono s1)) evd_int rfl
      have e0 : ∀ H1, Same H H1 → EvD K (tOp (rIxT K) (tVar 0) (tC (.int 0))) [some x, some (.int own), some (.ref a)] H1 (.int p) := fun H1 s1 => evd_ixT (i := 0) (evd_v 0 rfl (hx.mono s1)) evd_int rfl
      refine evq_ifn (b := !(fnd (vI found) t).isSome) (evb_is (evb_or (a := false) (b := !(fnd (vI found) t).isSome) (hn H (Same.refl _)) fun _ => evb_B (evd_dnotin hR (evr_v 2 rfl) (e1 H (Same.refl _)))) rfl) (fun hb H1 s1 => ?_) fun hb H1 s1 => ?_
      · refine evs_retD (K := K) evd_non fun v H2 s2 p2 => q v H2 (s1.trans s2) ?_
        have : fnd found t = none := by
          cases k : fnd found t with
          | none => rfl
          | some r => rw [show fnd (vI found) t = some (.int r) from by unfold vI; rw [fnd_mapN, k]; rfl] at hb; cases hb
        simp only [earlyEnt, Option.bind_some, this]
        exact p2
      · obtain ⟨r, k⟩ : ∃ r, fnd found t = some r := by
          cases k : fnd found t with
          | some r => exact ⟨r, rfl⟩
          | none => rw [show fnd (vI found) t = none from by unfold vI; rw [fnd_mapN, k]; rfl] at hb; cases hb
        have k2 : fnd (vI found) t = some (.int r) := by unfold vI; rw [fnd_mapN, k]; rfl
        refine evs_retD (K := K) (d := .tuple [.int (p + r - own), .int (t : Nat)]) (evd_tup (eva_cons (evd_ar (g := fun i j => i - j) (evd_ar (g := fun i j => i + j) (e0 H1 s1) (evd_dget (rd_same s1 hR) (evr_v 2 rfl) (e1 H1 s1) k2 (.int r))) (evd_v 1 rfl (.int own))) (eva_cons (e1 H1 s1) eva_nil)) (by simp)) fun v H2 s2 p2 => q v H2 (s1.trans s2) ?_
        simp only [earlyEnt, Option.bind_some, k]
        exact p2
def rowOf (L : Lad) (s : Nat) : List Ent := L.rows.getD s []
theorem rowOf_get {L : Lad} {s : Nat} (h : s < L.rows.length) : L.rows[s]? = some (rowOf L s) := by
  unfold rowOf
  rw [List.getD_eq_getElem?_getD, List.getElem?_eq_getElem h]; rfl
theorem rowOf_mem {L : Lad} {s : Nat} (h : s < L.rows.length) : rowOf L s ∈ L.rows := List.mem_of_getElem? (rowOf_get h)
theorem tip_get {L : Lad} {m s : Nat} (w : Wf m L) (h : s < L.rows.length) : L.ends[s]? = some (tip L.ends s) := by
  have hl : s < L.ends.length := by rw [w.len]; exact h
  unfold tip
  rw [List.getElem?_eq_getElem hl]; rfl
theorem rowsOf {m : Nat} {L : Lad} {B : Int} (w : Wf m L) (b : Bnd B L) : RowsOf (ent L.rows) (tip L.ends) L.rows.length B (rowOf L) := by
  have entE : ∀ s a, s < L.rows.length → ent L.rows s a = ((rowOf L s)[a]?).getD none := fun s a hs => by
    unfold ent
    rw [rowOf_get hs]; rfl
  refine ⟨Int.le_trans b.f0 b.f1, entE, fun s p t hs h => ?_, fun s c hs h => ?_⟩
  · have z := b.ent _ (rowOf_mem hs) p t h
    obtain ⟨a, ha⟩ := List.mem_iff_getElem?.mp h
    exact ⟨z.1, z.2, w.to s a p t (by rw [entE s a hs, ha]; rfl)⟩
  · have := tip_get w hs
    rw [h] at this
    exact b.tip c (List.mem_of_getElem? this)
theorem out_none {m : Nat} {L : Lad} (w : Wf m L) {s : Nat} (h : L.rows.length ≤ s) : (∀ a, ent L.rows s a = none) ∧ tip L.ends s = none := by
  refine ⟨fun a => ?_, ?_⟩
  · unfold ent
    rw [List.getElem?_eq_none h]; rfl
  · unfold tip
    rw [List.getElem?_eq_none (by rw [w.len]; exact h)]; rfl
def candF (found : List (Nat × Int)) : PyData → Option PyData
  | .tuple [.int p, .int t] => (fnd found t.toNat).map fun r => .int (p + r)
  | _ => none
def spLeastRests (K : PySem.W.Frag) : Sp := fun vs H Q _ => ∃ (x y : V) (m : Nat) (B : Int) (L : Lad), vs = [x, y] ∧ Dq K H x (rowsD L.rows) ∧ Dq K H y (tipsD L.ends) ∧ Wf m L ∧ m ≤ 100 ∧ L.rows.length ≤ 100 ∧ Bnd B L ∧
  ∀ found a H', H a = none → Same H H' → H' a = some (.dK (kvN (vI found))) → Known (ent L.rows) (tip L.ends) L.rows.length B found → (∀ s, Rest (ent L.rows) (tip L.ends) s (fnd found s)) → Q (.ref a) H'
theorem ok_least_rests (T : Txt K mg) : FnOk P w K mg base CX0 1 T.A_least_rests.f T.A_least_rests.d ["rows", "ends"] (spLeastRests K) := by
  refine T.A_least_rests.F.ok sc_least_rests (fun vs H Q E h => ?_) (fun cdv A outer s H vs Q E hr h => ?_)
  · obtain ⟨_, _, _, _, _, rfl, _⟩ := h; rfl
  · obtain ⟨x, y, m, B, L, rfl, hx, hy, wf, hm, hn, bd, q⟩ := h
    refine ⟨_, ((pss_cons (ps_asg (pe_tup (pa_cons pe_dnewK (pa_cons pe_bl pa_nil))) (kgTup (K := K) rfl (pgs_cons (pg_name (i := 2) sc_least_rests.nd rfl (.inr rfl)) (pgs_cons (pg_name (i := 3) sc_least_rests.nd rfl (.inl rfl)) pgs_nil))))
  (pss_cons (ps_while PassesOwn.never (pt_val (pv 3))
    (pss_cons (ps_set (i := 3) sc_least_rests.nd rfl (.inl rfl) pe_bl)
  (pss_one (ps_for PassesOwn.never rfl (pi_enumT (by rfl) T.n_enumerate (pa_cons (pv 0) pa_nil)) (kgTup (K := K) rfl (pgs_cons (pg_name (i := 4) sc_least_rests.nd rfl (.inl rfl)) (pgs_cons (pg_name (i := 5) sc_least_rests.nd rfl (.inl rfl)) pgs_nil)))
    (pss_cons (ps_set (i := 6) sc_least_rests.nd rfl (.inl rfl) (pe_ifExp (pt_cmpR op_notN (pe_ix (kIxT (K := K)) (pv 1) (pv 4) (fun _ _ => rfl)) pe_non (nomark _)) (pe_lst (pa_cons (pe_ix (kIxT (K := K)) (pv 1) (pv 4) (fun _ _ => rfl)) pa_nil)) (pe_lst pa_nil)))
  (pss_cons (ps_expr (pe_bm PySem.F.plainAttrs_list PySem.F.slot_list_extend PySem.F.type_list_extend mt_extend (pv 6) (pa_cons (pe_lc (own := [("entry", 7)]) (g := gName 7) rfl sc_least_rests.nd (kiTup (K := K) (pv 5)) (blkOk_by (own := [("entry", 7)]) (N := ["rows", "ends", "found", "is_new", "state", "row", "some", "entry"]) (sc := defScope s_least_rests) (by decide +kernel)) (fun _ _ _ _ _ => (pg_name (i := 7) sc_least_rests.nd rfl (.inl rfl))) (fun _ _ _ _ _ => pts_one (PW.pt (pw_and (pt_cmpR op_notN (pv 7) pe_non (nomark _)) (pw_and1 (pt_cmp (pc_din (hu_of hr) (pe_ix (kIxT (K := K)) (pv 7) pe_int (fun _ _ => rfl)) (pv 2))))))) (fun _ _ _ _ _ => (pe_op op_add (pe_ix (kIxT (K := K)) (pv 7) pe_int (fun _ _ => rfl)) (pe_dget (hu_of hr) (pv 2) (pe_ix (kIxT (K := K)) (pv 7) pe_int (fun _ _ => rfl)) (fun _ _ => rfl))))) pa_nil)))
  (pss_one (ps_if (PW.pt (pw_and (pt_cmpR (kNeD (K := K) (hu64 hr)) (pv 6) (pe_lst pa_nil) (nomark _)) (pw_and1 (PW.pt (pw_or (pt_cmp (pc_dnotin (hu_of hr) (pv 4) (pv 2))) (pw_or1 (pt_cmpR op_lt (pe_callB (kMin (K := K)) (by rfl) T.n_min (by decide +kernel) (pa_cons (pv 6) pa_nil)) (pe_dget (hu_of hr) (pv 2) (pv 4) (fun _ _ => rfl)) (nomark _)))))))) (pss_cons (ps_dput (hu_of hr) (pv 2) (pv 4) (pe_callB (kMin (K := K)) (by rfl) T.n_min (by decide +kernel) (pa_cons (pv 6) pa_nil)) rfl)
  (pss_one (ps_set (i := 3) sc_least_rests.nd rfl (.inl rfl) pe_bl))) pss_nil))))))))
  (pss_one (ps_ret (pv 2)))))), ?_⟩
    have R := rowsOf wf bd
    generalize hN : L.rows.length = n at *
    obtain ⟨M, hM⟩ : ∃ M : Nat, (M : Int) = n * B := ⟨(n * B).toNat, by have := Int.mul_nonneg (a := (n : Int)) (b := B) (by omega) R.b0; omega⟩
    intro a ha
    have s1 := same_new (o := HO.dK []) ha
    refine ⟨(by decide : 2 ≤ sizeLine), fun pt hpt => ?_⟩
    have apt : a ≠ pt := fun z => by rw [← z, upd_same] at hpt; cases hpt
    refine ⟨pt, [.ref a, .bl true], rfl, .inl (.inl upd_same), rfl, .ref a, _, rfl, .bl true, [], rfl, rfl, ?_⟩
    refine ⟨fun k σ' H' => ∃ (found : List (Nat × Int)) (isnew : Bool) (x4 x5 x6 : Option V), σ' = [some x, some y, some (.ref a), some (.bl isnew), x4, x5, x6, none] ∧ Same H H' ∧ H' a = some (.dK (kvN (vI found))) ∧
      Known (ent L.rows) (tip L.ends) n B found ∧ (isnew = false → ∀ s, s < n → FixAt (ent L.rows) (tip L.ends) found s) ∧ k = if isnew = true then Phi n M found + 1 else 0, ⟨_, [], true, none, none, none, rfl, s1.trans (same_new hpt), by rw [upd_ne apt]; exact upd_same, known_nil, (fun z => nomatch z), rfl⟩, ?_⟩
    rintro k σ' H' ⟨found0, isnew, x4, x5, x6, rfl, sH, ea, kn, fx, ek⟩
    refine (evb_test (K := K) (evd_v 3 rfl (.bl isnew))) H' (Same.refl _) _ fun H1 s2 => ?_
    cases isnew with
    | false =>
      refine iteF ⟨_, rfl, q found0 a H1 ha (sH.trans s2) (s2 _ _ ea) kn (fix_rest kn (fx rfl) (fun s a p t hs he => ?_) fun s hs => ?_)⟩
      · rw [← hN]; exact wf.to s a p t he
      · rw [← hN] at hs; exact out_none wf hs
    | true =>
      rw [if_pos rfl] at ek
      refine iteT ⟨_, fun σ'' H'' hN => hN, ?_⟩
      refine evq_setD (K := K) (d := .bool false) evd_bl fun v H2 s3 p3 => ?_
      cases p3
      have sH2 := sH.trans (s2.trans s3)
      have ea2 : H2 a = some (.dK (kvN (vI found0))) := s3 _ _ (s2 _ _ ea)
      have lds : (L.rows.map rowD).length = n := by rw [List.length_map, hN]
      refine evs_forG (K := K) (evi_enumT (evd_v 0 rfl (hx.mono sH2))) (fun Hb i σ' H' => ∃ (found : List (Nat × Int)) (isnew : Bool) (x4 x5 x6 : Option V), σ' = [some x, some y, some (.ref a), some (.bl isnew), x4, x5, x6, none] ∧ Same H H' ∧ Kp Hb H' ∧ H' a = some (.dK (kvN (vI found))) ∧
        Known (ent L.rows) (tip L.ends) n B found ∧ (isnew = false → found = found0 ∧ ∀ s, s < i → FixAt (ent L.rows) (tip L.ends) found s) ∧ (isnew = true → Phi n M found < Phi n M found0))
        (fun Hb i σ' H' _ _ ⟨_, _, _, _, _, _, _, k, _⟩ => k) (fun Hb s4 => ⟨found0, false, x4, x5, x6, rfl, sH2.trans s4, Kp.refl _, s4 _ _ ea2, kn, fun _ => ⟨rfl, fun s hs => absurd hs (Nat.not_lt_zero _)⟩, fun z => nomatch z⟩) (fun Hb i d σ' H' xv H'' s4 hd ⟨found, isnew, x4, x5, x6, eσ, sH', kp, eaf, knf, f0, f1⟩ s5 dx => ?_) fun Hb σ' H' s4 ⟨found, isnew, x4, x5, x6, eσ, sH', kp, eaf, knf, f0, f1⟩ => ?_
      · subst eσ
        have hi : i < n := by
          have := (List.getElem?_eq_some_iff.mp hd).1
          rwa [enumD_length, lds] at this
        have hiL : i < L.rows.length := by rw [hN]; exact hi
        have hrow : (L.rows.map rowD)[i]? = some (rowD (rowOf L i)) := by rw [List.getElem?_map, rowOf_get hiL]; rfl
        rw [enumD_get hrow] at hd
        cases hd
        refine g2 dx fun u4 u5 d4 d5 => ?_
        cases d4
        have sH5 := sH'.trans s5
        have ea5 : H'' a = some (.dK (kvN (vI found))) := s5 _ _ eaf
        have tipG : (L.ends.map tipD)[i]? = some (tipD (tip L.ends i)) := by rw [List.getElem?_map, tip_get wf hiL]; rfl
        have ev : ∀ H3, Same H'' H3 → EvD K (tOp (rIxT K) (tVar 1) (tVar 4)) [some x, some y, some (.ref a), some (.bl isnew), some (.int (i : Nat)), some u5, x6, none] H3 (tipD (tip L.ends i)) := fun H3 s => evd_ixT (i := i) (evd_v 1 rfl (hy.mono (sH5.trans s))) (evd_v 4 rfl (.int _)) tipG
        refine evq_setL (K := K) (ds := (tip L.ends i).toList.map .int) (evl_if (c := !isNone (tipD (tip L.ends i))) (evb_test (evd_notN (ev H'' (Same.refl _)))) (fun hb => ?_) fun hb => ?_) fun p6 xs6 H3 hp6 s6 e6 d6 => ?_
        · cases k : tip L.ends i with
          | none => rw [k] at hb; cases hb
          | some c =>
            have e2 := ev H'' (Same.refl _)
            rw [k] at e2
            exact evl_lst (eva_cons e2 eva_nil) (by simp)
        · cases k : tip L.ends i with
          | none => exact evl_lst eva_nil (by simp)
          | some c => rw [k] at hb; cases hb
        have ea6 : H3 a = some (.dK (kvN (vI found))) := s6 _ _ ea5
        have d5' := d5.mono s6
        have rlen : (rowOf L i).length ≤ 100 := by rw [wf.row _ (rowOf_mem hiL)]; exact hm
        have l6 : xs6.length ≤ 1 := by rw [d6.length]; cases tip L.ends i <;> simp
        have comp : EvL K (tLc (iTup K (tVar 5)) (gName 7) (tAnd (tTest (tOp rNotN (tVar 7) (tC .non))) (tB (tDIn (tOp (rIxT K) (tVar 7) (tC (.int 1))) (tVar 2)))) (tOp (rI0 fun i j => .int (i + j)) (tOp (rIxT K) (tVar 7) (tC (.int 0))) (tDGet (tVar 2) (tOp (rIxT K) (tVar 7) (tC (.int 1))))) [7])
            [some x, some y, some (.ref a), some (.bl isnew), some (.int (i : Nat)), some u5, some (.ref p6), none] H3 (((rowOf L i).map entD).filterMap (candF found)) := by
          refine evl_lc (evi_tup (te := tVar 5) (ds := (rowOf L i).map entD) (evd_v 5 rfl d5')).same (by rw [List.length_map]; omega) (candF found) (fun d xe H4 hd s7 dxe => ?_)
          obtain ⟨e, he, rfl⟩ := List.mem_map.mp hd
          have v7 : EvD K (tVar 7) [some x, some y, some (.ref a), some (.bl isnew), some (.int (i : Nat)), some u5, some (.ref p6), some xe] H4 (entD e) := evd_v 7 rfl dxe
          cases e with
          | none => exact evb_is (evb_and (a := false) (b := true) (evb_test (evd_notN v7)) fun z => nomatch z) rfl
          | some pt =>
            obtain ⟨p, t⟩ := pt
            have e1 : EvD K (tOp (rIxT K) (tVar 7) (tC (.int 1))) [some x, some y, some (.ref a), some (.bl isnew), some (.int (i : Nat)), some u5, some (.ref p6), some xe] H4 (.int (t : Nat)) := evd_ixT (i := 1) v7 evd_int rfl
            have e0 : EvD K (tOp (rIxT K) (tVar 7) (tC (.int 0))) [some x, some y, some (.ref a), some (.bl isnew), some (.int (i : Nat)), some u5, some (.ref p6), some xe] H4 (.int p) := evd_ixT (i := 0) v7 evd_int rfl
            have rd : Rd H4 a (.dK (kvN (vI found))) := .inl (s7 _ _ ea6)
            have tst : EvB (tAnd (tTest (tOp rNotN (tVar 7) (tC .non))) (tB (tDIn (tOp (rIxT K) (tVar 7) (tC (.int 1))) (tVar 2)))) [some x, some y, some (.ref a), some (.bl isnew), some (.int (i : Nat)), some u5, some (.ref p6), some xe] H4 (fnd (vI found) t).isSome :=
              evb_is (evb_and (a := true) (b := (fnd (vI found) t).isSome) (evb_test (evd_notN v7)) fun _ => evb_B (evd_din rd (evr_v 2 rfl) e1)) (by simp)
            have tn : ((t : Nat) : Int).toNat = t := Int.toNat_natCast t
            show match (fnd found ((t : Nat) : Int).toNat).map fun r => PyData.int (p + r) with
              | none => _
              | some e => _
            rw [tn]
            cases k : fnd found t with
            | none =>
              have k2 : fnd (vI found) t = none := by unfold vI; rw [fnd_mapN, k]; rfl
              rw [k2] at tst
              exact tst
            | some r =>
              have k2 : fnd (vI found) t = some (.int r) := by unfold vI; rw [fnd_mapN, k]; rfl
              rw [k2] at tst
              exact ⟨tst, evd_ar (g := fun i j => i + j) e0 (evd_dget rd (evr_v 2 rfl) e1 k2 (.int r))⟩
        have dsE : ((rowOf L i).map entD).filterMap (candF found) = (cands (rowOf L i) found).map .int := by
          unfold cands
          rw [List.filterMap_map, List.map_filterMap]
          congr 1
          funext e
          cases e with
          | none => rfl
          | some pt =>
            obtain ⟨p, t⟩ := pt
            simp only [Function.comp, entD, candF, Int.toNat_natCast, Option.bind_some, Option.map_map]
            rfl
        refine evq_extend (K := K) e6 ?_ (evr_v 6 rfl) (comp.is dsE) fun zs H4 s7 d7 => ?_
        · have := List.length_filterMap_le (fun e : Ent => e.bind fun x => (fnd found x.2).map (x.1 + ·)) (rowOf L i)
          rw [List.length_map]
          unfold cands
          omega
        have e67 : xs6 ++ zs = (cand (tip L.ends i) (rowOf L i) found).map V.int := by
          rw [d6.of_ints, d7.of_ints]
          unfold cand
          rw [List.map_append]
        rw [e67]
        have s57 := s6.trans s7
        have hp6H : H p6 = none := sH5.free hp6
        have a6 : a ≠ p6 := fun z => by rw [← z, ea5] at hp6; cases hp6
        have sH8 : Same H (upd H4 p6 (.lst ((cand (tip L.ends i) (rowOf L i) found).map V.int))) := same_mut (sH5.trans s57) hp6H
        have kp8 : Kp Hb (upd H4 p6 (.lst ((cand (tip L.ends i) (rowOf L i) found).map V.int))) := (kp.trans (.of (s5.trans s57))).trans (.updL (s7 _ _ e6))
        have ea8 : (upd H4 p6 (.lst ((cand (tip L.ends i) (rowOf L i) found).map V.int))) a = some (.dK (kvN (vI found))) := by rw [upd_ne a6]; exact s7 _ _ ea6
        have e68 : (upd H4 p6 (.lst ((cand (tip L.ends i) (rowOf L i) found).map V.int))) p6 = some (.lst ((cand (tip L.ends i) (rowOf L i) found).map V.int)) := upd_same
        revert sH8 kp8 ea8 e68
        generalize upd H4 p6 (.lst ((cand (tip L.ends i) (rowOf L i) found).map V.int)) = H8
        intro sH8 kp8 ea8 e68
        generalize hns : cand (tip L.ends i) (rowOf L i) found = ns at *
        have rd8 : Rd H8 a (.dK (kvN (vI found))) := .inl ea8
        have sq8 : SqL K H8 p6 (ns.map V.int) := .inl (.inl e68)
        have t1 : EvD K (tOp (rNeD K) (tVar 6) (tLst tNil)) [some x, some y, some (.ref a), some (.bl isnew), some (.int (i : Nat)), some u5, some (.ref p6), none] H8 (.bool (!decide (ns.map PyData.int = []))) := evd_neNil (n := 0) sq8 (DqAll.ints ns) (fun d hd => by obtain ⟨k, _, rfl⟩ := List.mem_map.mp hd; exact good_int k) (by decide) (evr_v 6 rfl)
        by_cases c0 : ns = []
        · refine evs_if (b := false) (evb_is (evb_and (a := false) (b := true) (evb_is (evb_test t1) (by rw [c0]; rfl)) fun z => nomatch z) rfl) (fun z => nomatch z) fun _ H9 s9 => ?_
          refine ⟨found, isnew, _, _, _, rfl, sH8.trans s9, kp8.trans (.of s9), s9 _ _ ea8, knf, fun hf => ⟨(f0 hf).1, fun s hs => ?_⟩, f1⟩
          by_cases c : s < i
          · exact (f0 hf).2 s c
          · have : s = i := by omega
            subst this
            exact fix_at R hi (.inl (by rw [hns]; exact c0))
        · obtain ⟨mn, hmn⟩ := isMin_ex ns c0
          have e4 : ∀ H9, EvD K (tVar 4) [some x, some y, some (.ref a), some (.bl isnew), some (.int (i : Nat)), some u5, some (.ref p6), none] H9 (.int (i : Nat)) := fun H9 => evd_v 4 rfl (.int _)
          have evm : ∀ H9, Same H8 H9 → EvD K (tCB (rMin K) (tCons (tVar 6) tNil)) [some x, some y, some (.ref a), some (.bl isnew), some (.int (i : Nat)), some u5, some (.ref p6), none] H9 (.int mn) := fun H9 s => evd_minLs (sqL_same s sq8) hmn (evr_v 6 rfl)
          have tst : EvB (tOr (tB (tDNotIn (tVar 4) (tVar 2))) (tTest (tOp (rI0 fun i j => .bl (decide (i < j))) (tCB (rMin K) (tCons (tVar 6) tNil)) (tDGet (tVar 2) (tVar 4))))) [some x, some y, some (.ref a), some (.bl isnew), some (.int (i : Nat)), some u5, some (.ref p6), none] H8
              (match fnd found i with | none => true | some r => decide (mn < r)) := by
            cases k : fnd found i with
            | none =>
              have k2 : fnd (vI found) i = none := by unfold vI; rw [fnd_mapN, k]; rfl
              exact evb_is (evb_or (a := true) (b := true) (evb_is (evb_B (evd_dnotin rd8 (evr_v 2 rfl) (e4 H8))) (by rw [k2]; rfl)) fun z => nomatch z) rfl
            | some r =>
              have k2 : fnd (vI found) i = some (.int r) := by unfold vI; rw [fnd_mapN, k]; rfl
              exact evb_is (evb_or (a := false) (b := decide (mn < r)) (evb_is (evb_B (evd_dnotin rd8 (evr_v 2 rfl) (e4 H8))) (by rw [k2]; rfl)) fun _ => evb_test (evd_lt (g := fun i j => decide (i < j)) (evm H8 (Same.refl _)) (evd_dget rd8 (evr_v 2 rfl) (e4 H8) k2 (.int r)))) (by simp)
          refine evs_if (b := match fnd found i with | none => true | some r => decide (mn < r)) (evb_is (evb_and (a := true) (evb_is (evb_test t1) (by simp [c0])) fun _ => tst) (by simp)) (fun hb H9 s9 => ?_) fun hb H9 s9 => ?_
          · have ln := length_keys_le knf.nd knf.lt
            refine evq_dput (K := K) (s9 _ _ ea8) (by unfold vI mapN; rw [List.length_map]; omega) (evm H9 s9) (evr_v 2 rfl) (e4 H9) fun v H10 s10 p10 => ?_
            cases p10
            have kv : kvN (putN (vI found) i (.int mn)) = kvN (vI (putN found i mn)) := by
              congr 1
              unfold vI putN
              rw [keys_mapN]
              by_cases c : i ∈ found.map (·.1)
              · rw [if_pos c, if_pos c]
                unfold mapN
                rw [List.map_map, List.map_map]
                refine List.map_congr_left fun p _ => ?_
                simp only [Function.comp]
                split <;> rfl
              · rw [if_neg c, if_neg c]
                unfold mapN
                rw [List.map_append]; rfl
            rw [kv]
            obtain ⟨kp1, kp2⟩ := known_put R knf hi (by rw [hns]; exact hmn) (fun r hr => by rw [hr] at hb; exact of_decide_eq_true hb) hM
            refine evs_setD (K := K) (d := .bool true) evd_bl fun v H11 s11 p11 => ?_
            cases p11
            have ea10 : H10 a = some (.dK (kvN (vI found))) := s10 _ _ (s9 _ _ ea8)
            refine ⟨putN found i mn, true, _, _, _, rfl, (same_mut (sH8.trans (s9.trans s10)) ha).trans s11, ((kp8.trans (.of (s9.trans s10))).trans (.updK ea10)).trans (.of s11), s11 _ _ upd_same, kp1, (fun z => nomatch z), fun _ => ?_⟩
            cases isnew with
            | true => exact Nat.lt_trans kp2 (f1 rfl)
            | false => rw [← (f0 rfl).1]; exact kp2
          · refine ⟨found, isnew, _, _, _, rfl, sH8.trans s9, kp8.trans (.of s9), s9 _ _ ea8, knf, fun hf => ⟨(f0 hf).1, fun s hs => ?_⟩, f1⟩
            by_cases c : s < i
            · exact (f0 hf).2 s c
            · have : s = i := by omega
              subst this
              refine fix_at R hi (.inr ?_)
              cases k : fnd found s with
              | none => rw [k] at hb; cases hb
              | some r =>
                rw [k] at hb
                have := of_decide_eq_false hb
                exact ⟨r, mn, rfl, by rw [hns]; exact hmn, by omega⟩
      · subst eσ
        rw [enumD_length, lds] at f0
        refine ⟨_, ?_, found, isnew, x4, x5, x6, rfl, sH', eaf, knf, fun hf s hs => (f0 hf).2 s hs, rfl⟩
        cases isnew with
        | true =>
          have := f1 rfl
          rw [if_pos rfl]
          omega
        | false =>
          rw [if_neg (by decide)]
          omega
end
end K96

set_option maxRecDepth 100000
set_option maxHeartbeats 2000000
/-! {k: e for k in d}, d a dict from whole numbers -/
namespace KD
open PySem PySem.Spec PyProof.Rows L2
section
variable {K : PySem.W.Frag} {H : Hp} {σ : L2.St} {tv : TE} {Q : VK}
theorem kvN_inj_keys {l : List (Nat × V)} {i : Nat} {k : Key} {v : V} (h : (kvN l)[i]? = some (k, v)) : ∃ p : Nat × V, l[i]? = some p ∧ k = .inl (p.1 : Int) ∧ v = p.2 := by
  unfold kvN at h
  rw [List.getElem?_map] at h
  cases e : l[i]? with
  | none => rw [e] at h; cases h
  | some p =>
    rw [e] at h
    have := Option.some.inj h
    simp only [Prod.mk.injEq] at this
    exact ⟨p, rfl, this.1.symm, this.2.symm⟩
theorem kvN_length (l : List (Nat × V)) : (kvN l).length = l.length := by unfold kvN; rw [List.length_map]
theorem kvN_snoc (l : List (Nat × V)) (s : Nat) (v : V) : kvN (l ++ [(s, v)]) = kvN l ++ [(.inl (s : Int), v)] := by unfold kvN; rw [List.map_append]; rfl
theorem yes_t {A B : Hp → Prop} (h : A H) : tYes σ H (fun b H' => if b = true then A H' else B H') := by
  show if true = true then A H else B H
  rw [if_pos rfl]
  exact h
/-- P: what holds of a value; it stays while dicts change -/
structure Stays (P : Nat → V → Hp → Prop) : Prop where
  same : ∀ s v H H', P s v H → Same H H' → P s v H'
  dict : ∀ s v H a kvs o, P s v H → H a = some (.dK kvs) → P s v (upd H a o)
  frz : ∀ s v H a od kvs, P s v H → H a = some (.frz od (.dK kvs)) → P s v (upd H a (.dK kvs))
theorem dc_keys {d : Addr} {l : List (Nat × V)} {i j : Nat} (hv : σ[i]? = some (some (.ref d))) (hj : (wipe σ [j])[j]? = some none) (hd : H d = some (.dK (kvN l))) (nd : (l.map (·.1)).Nodup) (hl : l.length ≤ 1000) (P : Nat → V → Hp → Prop) (st : Stays P)
    (hw : ∀ x : V, wipe ((wipe σ [j]).set j (some x)) [j] = wipe σ [j])
    (step : ∀ s od H', s ∈ l.map (·.1) → Same (upd H d (.frz od (.dK (kvN l)))) H' → ∀ Q : VK, (∀ v H'', Same H' H'' → P s v H'' → Q v H'') → tv ((wipe σ [j]).set j (some (.int (s : Nat)))) H' Q)
    (fin : ∀ D l' H', H D = none → Same H H' → H' D = some (.dK (kvN l')) → l'.map (·.1) = l.map (·.1) → (∀ p ∈ l', P p.1 p.2 H') → Q (.ref D) H') :
    tLockE (tDc (iKeys (tVar i)) (gName j) tYes (tVar j) tv [j]) σ H Q := by
  refine ⟨d, .dK (kvN l), hd, trivial, fun od => ?_⟩
  generalize eHl : upd H d (.frz od (.dK (kvN l))) = Hl
  have hdl : Hl d = some (.frz od (.dK (kvN l))) := by rw [← eHl]; exact upd_same
  refine ⟨.ref d, hv, d, od, rfl, .inl ⟨kvN l, hdl, fun D hD => ?_⟩⟩
  have dD : d ≠ D := fun z => by rw [← z, hdl] at hD; cases hD
  refine ⟨fun k m H' => m = l.length - k ∧ k ≤ l.length ∧ Same Hl H' ∧ ∃ acc : List (Nat × V), H' D = some (.dK (kvN acc)) ∧ acc.map (·.1) = (l.map (·.1)).take k ∧ ∀ p ∈ acc, P p.1 p.2 H', ⟨l.length, by simp, Nat.zero_le _, same_new hD, [], upd_same, rfl, fun p hp => by simp at hp⟩, ?_⟩
  rintro k m H' ⟨rfl, hk, s', acc, eD, ek, hP⟩
  by_cases lt : k < l.length
  · refine .inr ⟨⟨s' _ _ hdl, by rw [kvN_length]; exact lt⟩, fun H'' => k + 1 ≤ l.length ∧ Same Hl H'' ∧ ∃ acc : List (Nat × V), H'' D = some (.dK (kvN acc)) ∧ acc.map (·.1) = (l.map (·.1)).take (k + 1) ∧ ∀ p ∈ acc, P p.1 p.2 H'', fun H'' ⟨a, b, c⟩ => ⟨l.length - (k + 1), by omega, rfl, a, b, c⟩, fun x H'' y => ?_⟩
    obtain ⟨rfl, ky, vy, e1, rfl⟩ := y
    obtain ⟨p, hp, rfl, rfl⟩ := kvN_inj_keys e1
    have hs : (l.map (·.1))[k]? = some p.1 := by rw [List.getElem?_map, hp]; rfl
    refine ⟨hw _, ?_⟩
    refine yes_t ⟨.int (p.1 : Nat), ?_, ?_⟩
    · exact List.getElem?_set_self (List.getElem?_eq_some_iff.mp hj).1
    · refine step p.1 od H'' (List.mem_of_getElem? hs) (by rw [eHl]; exact s') _ fun v H3 s3 pv => ?_
      have eD3 := s3 _ _ eD
      have nin : p.1 ∉ acc.map (·.1) := by
        rw [ek]
        intro hm
        obtain ⟨i2, hi2⟩ := List.mem_iff_getElem?.mp hm
        have l2 := (List.getElem?_eq_some_iff.mp hi2).1
        rw [List.length_take] at l2
        rw [List.getElem?_take] at hi2
        rw [if_pos (by omega)] at hi2
        have h1 : k < (l.map (·.1)).length := by rw [List.length_map]; exact lt
        have := (List.getElem?_inj h1 nd).mp (hs.trans hi2.symm)
        omega
      have la : acc.length ≤ 1000 := by
        have := congrArg List.length ek
        rw [List.length_map, List.length_take] at this
        omega
      refine ⟨kvN acc, .inl (p.1 : Int), rfl, eD3, ?_, lt, same_mut (s'.trans s3) hD, acc ++ [(p.1, v)], ?_, ?_, fun q hq => ?_⟩
      · rw [kvN_length, sizeLine_eq]; omega
      · rw [upd_same, putK_kvN]
        unfold putN
        rw [if_neg nin]
      · rw [List.map_append, ek, List.take_add_one, hs]; rfl
      · rcases List.mem_append.mp hq with h | h
        · exact st.dict _ _ _ _ _ _ (st.same _ _ _ _ (hP q h) s3) eD3
        · simp at h
          subst h
          exact st.dict _ _ _ _ _ _ pv eD3
  · have e : k = l.length := by omega
    subst e
    have ed := s' _ _ hdl
    refine .inl ⟨⟨ed, by rw [kvN_length]; exact Nat.le_refl _⟩, ed, ?_⟩
    have hD0 : H D = none := by
      rw [← eHl, upd_ne (Ne.symm dD)] at hD
      exact hD
    refine fin D acc _ hD0 (fun a u ha => ?_) (by rw [upd_ne (Ne.symm dD)]; exact eD) (by rw [ek, List.take_of_length_le (by rw [List.length_map]; exact Nat.le_refl _)]) fun p hp => st.frz _ _ _ _ _ _ (hP p hp) ed
    by_cases c : a = d
    · subst c
      rw [upd_same, ← hd, ha]
    · rw [upd_ne c]
      refine s' _ _ ?_
      rw [← eHl, upd_ne c]
      exact ha
theorem evq_lockset {te : TE} {u : TS} {D : Ends} {i : Nat} (h : tLockE te σ H fun v H1 => u D (σ.set i (some v)) H1) : tSeq (tLock (tAsg te (gName i))) u D σ H := h
end
section
variable {X : Cx}
theorem sw_trueD {kx vx : Expr} {gs : List Comprehension} {scope : Scope} {pos py : Pos} {y : Str} {l : Nat} {env : Env} (hk : env.scope.kind = .function) (hy : env.scope.names.lookup y = some .local) (hl : (py.line == pos.line) = true)
    (ha : (scope.names.any fun (n, k) => n == y && (k == .local || k == .cell)) = false) : swapsWith (.DictComp kx vx gs scope pos) (some (.Name y py)) l env = pure true := by
  have ky : env.kindOf y = some .local := hy
  have hb : env.blockKind = .function := by unfold Env.blockKind; rw [hk]; rfl
  unfold swapsWith
  simp only [hb, ky, ha, Expr.pos, hl]
  rfl
theorem ps_setDc {i : Nat} {y : Str} {py : Pos} {kx vx tg iter : Expr} {ifs : List Expr} {scope : Scope} {own : List (Str × Nat)} {pos spos : Pos} {wi : TI} {g : TG} {tt : TT} {tk tv : TE} (hc : X.calm = true) (hN : X.N.Nodup) (hy : X.N[i]? = some y) (hyl : X.env.scope.names.lookup y = some .local)
    (hsw : swapsWith (.DictComp kx vx [⟨tg, iter, ifs, 0⟩] scope pos) (some (.Name y py)) spos.line X.env = pure true) (hi : PI X tg iter wi) (ok : BlkOk X.N X.env.scope scope own)
    (hg : ∀ (s : Shared) (H : Hp) (C : Addr) (cl : List (Str × Addr)) (fp : List Addr), PG (X.blk s H scope (compEnvC scope cl C X.env) fp) tg g) (ht : ∀ (s : Shared) (H : Hp) (C : Addr) (cl : List (Str × Addr)) (fp : List Addr), PTs (X.blk s H scope (compEnvC scope cl C X.env) fp) ifs tt)
    (hk : ∀ (s : Shared) (H : Hp) (C : Addr) (cl : List (Str × Addr)) (fp : List Addr), PE (X.blk s H scope (compEnvC scope cl C X.env) fp) kx tk)
    (he : ∀ (s : Shared) (H : Hp) (C : Addr) (cl : List (Str × Addr)) (fp : List Addr), PE (X.blk s H scope (compEnvC scope cl C X.env) fp) vx tv) (hs : ∀ x, foldedSetIterable iter X.env x = pure x := by intro _; rfl) :
    PS X (.Assign [.Name y py] (.DictComp kx vx [⟨tg, iter, ifs, 0⟩] scope pos) spos) (tAsg (tDc wi g tt tk tv (own.map (·.2))) (gName i)) := by
  refine ⟨fun pins s σ H D I h => ?_⟩
  rw [exec_Assign_Name_used _ _ _ _ hsw]
  refine wpAny_bind (wpAny_standAt (wpAny_bind ?_))
  have hq : tDc wi g tt tk tv (own.map (·.2)) σ H (fun x H1 => gName i x σ H1 D.nx) := h
  show wpAny _ X.A (do let _ ← comprehension (.DictComp kx vx [⟨tg, iter, ifs, 0⟩] scope pos) scope X.env (firstIterPos [⟨tg, iter, ifs, 0⟩] pos) newDict false (eval iter X.env) (some (assign (.Name y py) X.env))) _ _ s
  refine wpAny_bind (thn (dc_core (Qf := fun _ s' => SP X pins D .next s') hc hN I hi ok hg ht hk he hs hq fun L C s' m H' I' q hn f => ?_) fun _ s' hq => wpAny_pure (wpAny_pure hq))
  · show wpAny _ _ (assign (.Name y py) X.env (.ref L)) _ _ _
    refine wpAny_assign_Name (store_ok2 (v := V.ref L) I' hN hy (.inl hyl) rfl (fun s2 I2 ⟨a, sb, ha⟩ => ?_) (.inr hyl))
    obtain ⟨f0, f1, f2, f3, f4, f5⟩ := f
    have ne : C ≠ a := by
      rcases ha with z | z
      · rw [z]; exact f1
      · exact fun e => f4 y a z e.symm
    exact ⟨m, hn.sameBut sb ne, fun h3 sb3 => ⟨_, H', I2.turned (t' := s2.toks) (fun b o hb e => (sb3.2 b hb).trans e) f0 f1 f3 f4 f5, q⟩⟩
end
end KD

set_option maxRecDepth 100000
set_option maxHeartbeats 2000000
/-! early_ladder -/
namespace K96
open PySem PySem.Spec PyProof.Rows L2 KD Ladm
theorem Kp.unfrz {H : Hp} {a : Addr} {od : Obj} {kvs : List (Key × V)} {o : HO} (h : H a = some (.frz od (.dK kvs))) : Kp H (upd H a o) := by
  refine ⟨fun b xs r => ?_, fun b xs r => ?_⟩
  · by_cases e : b = a
    · subst e
      rcases r with r | ⟨ob, r⟩ <;> (rw [h] at r; cases r)
    · unfold Rd; rw [upd_ne e]; exact r
  · by_cases e : b = a
    · subst e
      rcases r with r | ⟨ob, r⟩ <;> (rw [h] at r; cases r)
    · exact ⟨xs, by unfold Rd; rw [upd_ne e]; exact r⟩
def tipV : Option Int → V
  | none => .non
  | some c => .int c
theorem tipV_dq {K : PySem.W.Frag} {H : Hp} : ∀ c : Option Int, Dq K H (tipV c) (tipD c)
  | none => .non
  | some c => .int c
theorem dq_tipV {K : PySem.W.Frag} {H : Hp} {v : V} : ∀ {c : Option Int}, Dq K H v (tipD c) → v = tipV c
  | none, h => h.nonE
  | some c, h => h.intE
def unE : PyData → Ent
  | .tuple [.int p, .int t] => some (p, t.toNat)
  | _ => none
theorem unE_entD (e : Ent) : unE (entD e) = e := by
  cases e with
  | none => rfl
  | some x => obtain ⟨p, t⟩ := x; simp [entD, unE]
def ToldV (K : PySem.W.Frag) (rowE : Nat → List Ent) (s : Nat) (v : V) (H : Hp) : Prop := ∃ p xs, v = .ref p ∧ H p = some (.lst xs) ∧ DqAll K H xs ((rowE s).map entD)
def ToldAt (K : PySem.W.Frag) (H : Hp) (a : Addr) (keys : List Nat) (rowE : Nat → List Ent) : Prop := ∃ l : List (Nat × V), H a = some (.dK (kvN l)) ∧ l.map (·.1) = keys ∧ ∀ p ∈ l, ToldV K rowE p.1 p.2 H
def LastAt (H : Hp) (a : Addr) (keys : List Nat) (F : FS) : Prop := ∃ l : List (Nat × V), H a = some (.dK (kvN l)) ∧ l.map (·.1) = keys ∧ ∀ p ∈ l, p.2 = tipV (F p.1)
theorem ToldV.stays (K : PySem.W.Frag) (rowE : Nat → List Ent) : Stays (ToldV K rowE) where
  same := fun s v H H' ⟨p, xs, e, h, d⟩ sm => ⟨p, xs, e, sm _ _ h, d.mono sm⟩
  dict := fun s v H a kvs o ⟨p, xs, e, h, d⟩ ha => ⟨p, xs, e, by rw [upd_ne (fun z => by rw [z, ha] at h; cases h)]; exact h, d.kp (.updK ha)⟩
  frz := fun s v H a od kvs ⟨p, xs, e, h, d⟩ ha => ⟨p, xs, e, by rw [upd_ne (fun z => by rw [z, ha] at h; cases h)]; exact h, d.kp (Kp.unfrz ha)⟩
theorem ToldAt.mono {K : PySem.W.Frag} {H H' : Hp} {a : Addr} {keys : List Nat} {rowE : Nat → List Ent} (h : ToldAt K H a keys rowE) (s : Same H H') : ToldAt K H' a keys rowE := by
  obtain ⟨l, h1, h2, h3⟩ := h
  exact ⟨l, s _ _ h1, h2, fun p hp => (ToldV.stays K rowE).same _ _ _ _ (h3 p hp) s⟩
theorem LastAt.mono {H H' : Hp} {a : Addr} {keys : List Nat} {F : FS} (h : LastAt H a keys F) (s : Same H H') : LastAt H' a keys F := by
  obtain ⟨l, h1, h2, h3⟩ := h
  exact ⟨l, s _ _ h1, h2, h3⟩
theorem evq_callset {K : PySem.W.Frag} {H : Hp} {σ : L2.St} {D : Ends} {u : TS} {sp : Sp} {E : XK} {ta : TA} {ds : List PyData} {i : Nat} (h : EvA K ta σ H ds) (q : ∀ vs H1, Same H H1 → DqAll K H1 vs ds → sp vs H1 (fun v H2 => u D (σ.set i (some v)) H2) E) : tSeq (tAsg (tCall sp [] E ta) (gName i)) u D σ H :=
  h H (Same.refl _) _ fun vs H1 s p => by
    show sp (vs ++ []) H1 _ E
    rw [List.append_nil]
    exact q vs H1 s p
def erow (L : Lad) (R : FS) (s : Nat) : List Ent := (rowOf L s).map fun e => earlyEnt e ((R s).getD 0) R
abbrev nsc_early_ladder : Scope := { kind := ScopeKind.function, names := [(".0", NameKind.local), ("state", NameKind.cell), ("rests", NameKind.cell), ("rows", NameKind.cell)], isGenerator := false, isCoroutine := false }
section
variable {P : Program} {w : World} {K : PySem.W.Frag} {mg : Str → Option Value} {base : Heap}
def spEarlyLadder (K : PySem.W.Frag) : Sp := fun vs H Q _ => ∃ (x : V) (lt : List Str) (B : Int) (L : Lad), vs = [x] ∧ Dq K H x (ladD lt L) ∧ Wf lt.length L ∧ lt.length ≤ 6 ∧ L.rows.length ≤ 100 ∧ Bnd B L ∧
  (∀ H', Same H H' → (∀ w, run (ent L.rows) (tip L.ends) 0 w = none) → Q .non H') ∧
  (∀ found r0 T aT aL H', Same H H' → Known (ent L.rows) (tip L.ends) L.rows.length B found → (∀ s, Rest (ent L.rows) (tip L.ends) s (fnd found s)) → fnd found 0 = some r0 → H' T = some (.tup [.int (L.first + r0), .ref aT, .ref aL]) →
    ToldAt K H' aT (found.map (·.1)) (erow L (fnd found)) → LastAt H' aL (found.map (·.1)) (earlyF (tip L.ends) (fnd found)) → Q (.ref T) H')
theorem ok_early_ladder (T : Txt K mg) : FnOk P w K mg base CX0 2 T.A_early_ladder.f T.A_early_ladder.d ["ladder"] (spEarlyLadder K) := by
  refine T.A_early_ladder.F.ok sc_early_ladder (fun vs H Q E h => ?_) (fun cdv A outer s H vs Q E hr h => ?_)
  · obtain ⟨_, _, _, _, rfl, _⟩ := h; rfl
  · obtain ⟨x, lt, B, L, rfl, hx, wf, hm, hn, bd, q0, q1⟩ := h
    refine ⟨_, ((pss_cons (ps_asg (pv 0) (kgTup (K := K) rfl (pgs_cons (pg_name (i := 1) sc_early_ladder.nd rfl (.inl rfl)) (pgs_cons (pg_name (i := 2) sc_early_ladder.nd rfl (.inl rfl)) (pgs_cons (pg_name (i := 3) sc_early_ladder.nd rfl (.inr rfl)) (pgs_cons (pg_name (i := 4) sc_early_ladder.nd rfl (.inr rfl)) pgs_nil))))))
  (pss_cons (ps_set (i := 5) sc_early_ladder.nd rfl (.inr rfl) (pe_call (ok_least_rests T) (hr.mono (by decide)) (by rfl) T.A_least_rests.g T.A_least_rests.F.kp T.A_least_rests.b .nil pass0 (pa_cons (pv 3) (pa_cons (pv 4) pa_nil))))
  (pss_cons (ps_if (pt_cmp (pc_dnotin (hu_of hr) pe_int (pv 5))) (pss_one (ps_ret pe_non)) pss_nil)
  (pss_cons (ps_lock (ps_setDc (i := 6) (own := [("state", 8)]) (g := gName 8) (tt := tYes) rfl sc_early_ladder.nd rfl rfl (sw_trueD rfl rfl rfl (by decide +kernel)) (pi_keys (pv 5)) (blkOk_by (own := [("state", 8)]) (N := ["ladder", "letters", "first", "rows", "ends", "rests", "told", "last", "state", "entry"]) (sc := defScope s_early_ladder) (by decide +kernel)) (fun _ _ _ _ _ => (pg_name (i := 8) sc_early_ladder.nd rfl (.inr rfl))) (fun _ _ _ _ _ => pts_nil) (fun _ _ _ _ _ => (pv 8)) (fun _ _ _ _ _ => (pe_lc (own := [("entry", 9)]) (g := gName 9) (tt := tYes) rfl sc_early_ladder.nd (kiTup (K := K) (pe_ix (kIxT (K := K)) (pv 3) (pv 8) (fun _ _ => rfl))) (blkOk_by (own := [("entry", 9)]) (N := ["ladder", "letters", "first", "rows", "ends", "rests", "told", "last", "state", "entry"]) (sc := nsc_early_ladder) (by decide +kernel)) (fun _ _ _ _ _ => (pg_name (i := 9) sc_early_ladder.nd rfl (.inl rfl))) (fun _ _ _ _ _ => pts_nil) (fun _ _ _ _ _ => (pe_call (ok_early_entry T) (hr.mono (by decide)) (by rfl) T.A_early_entry.g T.A_early_entry.F.kp T.A_early_entry.b .nil pass0 (pa_cons (pv 9) (pa_cons (pe_dget (hu_of hr) (pv 5) (pv 8) (fun _ _ => rfl)) (pa_cons (pv 5) pa_nil)))))))))
  (pss_cons (ps_lock (ps_setDc (i := 7) (own := [("state", 8)]) (g := gName 8) (tt := tYes) rfl sc_early_ladder.nd rfl rfl (sw_trueD rfl rfl rfl (by decide +kernel)) (pi_keys (pv 5)) (blkOk_by (own := [("state", 8)]) (N := ["ladder", "letters", "first", "rows", "ends", "rests", "told", "last", "state", "entry"]) (sc := defScope s_early_ladder) (by decide +kernel)) (fun _ _ _ _ _ => (pg_name (i := 8) sc_early_ladder.nd rfl (.inl rfl))) (fun _ _ _ _ _ => pts_nil) (fun _ _ _ _ _ => (pv 8)) (fun _ _ _ _ _ => (pe_ifExp (pt_cmpR op_isN (pe_ix (kIxT (K := K)) (pv 4) (pv 8) (fun _ _ => rfl)) pe_non (nomark _)) pe_non (pe_op op_sub (pe_ix (kIxT (K := K)) (pv 4) (pv 8) (fun _ _ => rfl)) (pe_dget (hu_of hr) (pv 5) (pv 8) (fun _ _ => rfl)))))))
  (pss_one (ps_ret (pe_tup (pa_cons (pe_op op_add (pv 2) (pe_dget (hu_of hr) (pv 5) pe_int (fun _ _ => rfl))) (pa_cons (pv 6) (pa_cons (pv 7) pa_nil)))))))))))), ?_⟩
    refine evq_tup4 (evd_v 0 rfl hx) fun u1 u2 u3 u4 H1 s1 k1 k2 k3 k4 => ?_
    cases k2
    refine evq_callset (K := K) (eva_cons (evd_v 3 rfl k3) (eva_cons (evd_v 4 rfl k4) eva_nil)) fun vs H2 s2 p2 => ?_
    obtain ⟨y3, y4, rfl, d3, d4⟩ := p2.two
    refine ⟨y3, y4, lt.length, B, L, rfl, d3, d4, wf, by omega, hn, bd, fun found a H3 ha s3 ea kn hR => ?_⟩
    have sH := (s1.trans s2).trans s3
    have rd : Rd H3 a (.dK (kvN (vI found))) := .inl ea
    have k3' := (k3.mono s2).mono s3
    have k4' := (k4.mono s2).mono s3
    have ln := length_keys_le kn.nd kn.lt
    refine evq_ifn (b := !(fnd (vI found) 0).isSome) (evb_B (K := K) (evd_dnotin rd (evr_v 5 rfl) (evd_int (i := ((0 : Nat) : Int))))) (fun hb H4 s4 => ?_) fun hb H4 s4 => ?_
    · refine evs_retD (K := K) evd_non fun v H5 s5 p5 => ?_
      cases p5
      refine q0 H5 (sH.trans (s4.trans s5)) ?_
      have z := hR 0
      cases k : fnd found 0 with
      | none => rw [k] at z; exact z
      | some r => rw [show fnd (vI found) 0 = some (.int r) from by unfold vI; rw [fnd_mapN, k]; rfl] at hb; cases hb
    · obtain ⟨r0, k0⟩ : ∃ r, fnd found 0 = some r := by
        cases k : fnd found 0 with
        | some r => exact ⟨r, rfl⟩
        | none => rw [show fnd (vI found) 0 = none from by unfold vI; rw [fnd_mapN, k]; rfl] at hb; cases hb
      have ea4 := s4 _ _ ea
      have keys : (vI found).map (·.1) = found.map (·.1) := keys_mapN
      have nd : ((vI found).map (·.1)).Nodup := by rw [keys]; exact kn.nd
      have lv : (vI found).length ≤ 1000 := by unfold vI mapN; rw [List.length_map]; omega
      have val : ∀ s, s ∈ (vI found).map (·.1) → s < L.rows.length ∧ ∃ r, fnd found s = some r := fun s hs => by
        rw [keys] at hs
        refine ⟨kn.lt s hs, ?_⟩
        cases k : fnd found s with
        | some r => exact ⟨r, rfl⟩
        | none => exact absurd hs (fnd_none.mp k)
      have kf : ∀ {H5 : Hp} {od : Obj}, H5 a = some (.dK (kvN (vI found))) → Kp H5 (upd H5 a (.frz od (.dK (kvN (vI found))))) := fun h => .updK h
      refine evq_lockset (dc_keys (i := 5) (j := 8) rfl rfl ea4 nd lv (ToldV K (erow L (fnd found))) (ToldV.stays K _) (fun x => rfl) (fun s od H5 hs s5 Q hq => ?_) fun aT lT H5 haT s5 eT keyT hT => ?_)
      · obtain ⟨hs1, r, hr⟩ := val s hs
        have k35 := ((k3'.mono s4).kp (kf ea4 (od := od))).mono s5
        have rd5 : Rd H5 a (.dK (kvN (vI found))) := .inr ⟨od, s5 _ _ upd_same⟩
        have grow : (L.rows.map rowD)[s]? = some (rowD (rowOf L s)) := by rw [List.getElem?_map, rowOf_get hs1]; rfl
        have hr2 : fnd (vI found) s = some (.int r) := by unfold vI; rw [fnd_mapN, hr]; rfl
        have rl : (rowOf L s).length ≤ 100 := by rw [wf.row _ (rowOf_mem hs1)]; omega
        have lc : EvL K (tLc (iTup K (tOp (rIxT K) (tVar 3) (tVar 8))) (gName 9) tYes (tCall (spEarlyEntry K) [] E0 (tCons (tVar 9) (tCons (tDGet (tVar 5) (tVar 8)) (tCons (tVar 5) tNil)))) [9])
            [some x, some u1, some (.int L.first), some u3, some u4, some (.ref a), none, none, some (.int (s : Nat)), none] H5 (((rowOf L s).map entD).map fun d => entD (earlyEnt (unE d) ((fnd found s).getD 0) (fnd found))) := by
          refine evl_map (i := 9) (evi_tup (evd_ixT (i := s) (evd_v 3 rfl k35) (evd_v 8 rfl (.int _)) grow)).same (by rw [List.length_map]; omega) _ fun d xe H6 hd s6 dxe => ?_
          obtain ⟨e, he, rfl⟩ := List.mem_map.mp hd
          refine fun H7 s7 Q2 q2 => ?_
          have rd7 := rd_same (s6.trans s7) rd5
          refine ⟨xe, rfl, .ref a, rfl, .int (s : Nat), rfl, a, .int r, rfl, .inl ⟨kvN (vI found), .inl (s : Int), rd7, rfl, by rw [valV_kvN, hr2]⟩, .ref a, rfl, ?_⟩
          refine ⟨xe, e, r, a, found, rfl, dxe.mono s7, rd7, fun v H10 s10 p10 => ?_⟩
          refine q2 v H10 _ s10 p10 ?_
          rw [unE_entD, hr]; rfl
        refine lc.use _ fun p xs H6 hp s6 e6 d6 => ?_
        refine hq _ H6 s6 ⟨p, xs, rfl, e6, ?_⟩
        have : ((rowOf L s).map entD).map (fun d => entD (earlyEnt (unE d) ((fnd found s).getD 0) (fnd found))) = (erow L (fnd found) s).map entD := by
          unfold erow
          rw [List.map_map, List.map_map]
          refine List.map_congr_left fun e _ => ?_
          simp only [Function.comp, unE_entD]
        rw [← this]
        exact d6
      · have ea5 := s5 _ _ ea4
        have st : Stays (fun s v (_ : Hp) => v = tipV (earlyF (tip L.ends) (fnd found) s)) := ⟨fun _ _ _ _ h _ => h, fun _ _ _ _ _ _ h _ => h, fun _ _ _ _ _ _ h _ => h⟩
        refine evq_lockset (dc_keys (i := 5) (j := 8) rfl rfl ea5 nd lv (fun s v _ => v = tipV (earlyF (tip L.ends) (fnd found) s)) st (fun x => rfl) (fun s od H6 hs s6 Q hq => ?_) fun aL lL H6 haL s6 eL keyL hL => ?_)
        · obtain ⟨hs1, r, hr⟩ := val s hs
          have k46 := (((k4'.mono s4).mono s5).kp (kf ea5 (od := od))).mono s6
          have rd6 : Rd H6 a (.dK (kvN (vI found))) := .inr ⟨od, s6 _ _ upd_same⟩
          have gtip : (L.ends.map tipD)[s]? = some (tipD (tip L.ends s)) := by rw [List.getElem?_map, tip_get wf hs1]; rfl
          have hr2 : fnd (vI found) s = some (.int r) := by unfold vI; rw [fnd_mapN, hr]; rfl
          have e4 : ∀ H7, Same H6 H7 → EvD K (tOp (rIxT K) (tVar 4) (tVar 8)) [some x, some u1, some (.int L.first), some u3, some u4, some (.ref a), some (.ref aT), none, some (.int (s : Nat)), none] H7 (tipD (tip L.ends s)) := fun H7 s7 => evd_ixT (i := s) (evd_v 4 rfl (k46.mono s7)) (evd_v 8 rfl (.int _)) gtip
          have ev : EvD K (tIf (tTest (tOp rIsN (tOp (rIxT K) (tVar 4) (tVar 8)) (tC .non))) (tC .non) (tOp (rI0 fun i j => .int (i - j)) (tOp (rIxT K) (tVar 4) (tVar 8)) (tDGet (tVar 5) (tVar 8)))) [some x, some u1, some (.int L.first), some u3, some u4, some (.ref a), some (.ref aT), none, some (.int (s : Nat)), none] H6 (tipD (earlyF (tip L.ends) (fnd found) s)) := by
            have t0 := e4 H6 (Same.refl _)
            unfold earlyF
            rw [hr]
            cases k : tip L.ends s with
            | none =>
              rw [k] at t0
              exact evp_if (b := true) (evb_test (evd_isN t0)) (fun _ => evd_non) fun z => nomatch z
            | some c =>
              rw [k] at t0
              exact evp_if (b := false) (evb_test (evd_isN t0)) (fun z => nomatch z) fun _ => evd_ar (g := fun i j => i - j) t0 (evd_dget rd6 (evr_v 5 rfl) (evd_v 8 rfl (.int _)) hr2 (.int r))
          refine ev.use _ fun v H7 s7 p7 => hq v H7 s7 (dq_tipV p7)
        · have ea6 := s6 _ _ ea5
          have hr2 : fnd (vI found) 0 = some (.int r0) := by unfold vI; rw [fnd_mapN, k0]; rfl
          refine (evd_ar (K := K) (g := fun i j => i + j) (evd_v (K := K) 2 rfl (.int L.first)) (evd_dget (K := K) (.inl ea6) (evr_v 5 rfl) (evd_int (i := ((0 : Nat) : Int))) hr2 (.int r0))).run (Same.refl _) fun v H7 s7 p7 => ?_
          cases p7
          refine ⟨.ref aT, rfl, .ref aL, rfl, (by decide : 3 ≤ sizeLine), fun T hT' => ?_⟩
          have s8 := same_new (o := .tup [.int (L.first + r0), .ref aT, .ref aL]) hT'
          have toldA : ToldAt K H5 aT (found.map (·.1)) (erow L (fnd found)) := ⟨lT, eT, keyT.trans keys, hT⟩
          have lastA : LastAt H6 aL (found.map (·.1)) (earlyF (tip L.ends) (fnd found)) := ⟨lL, eL, keyL.trans keys, hL⟩
          exact q1 found r0 T aT aL _ (sH.trans (s4.trans (s5.trans (s6.trans (s7.trans s8))))) kn hR k0 upd_same (toldA.mono (s6.trans (s7.trans s8))) (lastA.mono (s7.trans s8))
end
end K96

/-! classes by numbering, made finer until they stand -/
namespace Ladm
open KD
structure Part (sts : List Nat) (M : Nat → Nat) (c : Nat) : Prop where
  lt : ∀ s ∈ sts, M s < c
  onto : ∀ k, k < c → ∃ s ∈ sts, M s = k
section
variable {κ : Type} [DecidableEq κ]
def idxM (sts : List Nat) (key : Nat → κ) (s : Nat) : Nat := (uniq (sts.map key)).idxOf (key s)
theorem numbered_idxM (sts : List Nat) (key : Nat → κ) : numbered (sts.map key) = sts.map (idxM sts key) := by
  unfold numbered
  rw [List.map_map]; rfl
theorem part_idxM (sts : List Nat) (key : Nat → κ) : Part sts (idxM sts key) (uniq (sts.map key)).length := by
  refine ⟨fun s hs => ?_, fun k hk => ?_⟩
  · have : idxM sts key s ∈ numbered (sts.map key) := by rw [numbered_idxM]; exact List.mem_map.mpr ⟨s, hs, rfl⟩
    exact numbered_lt this
  · have := numbered_all hk
    rw [numbered_idxM] at this
    obtain ⟨s, hs, e⟩ := List.mem_map.mp this
    exact ⟨s, hs, e⟩
theorem idxM_iff {sts : List Nat} {key : Nat → κ} {s t : Nat} (hs : s ∈ sts) (ht : t ∈ sts) : idxM sts key s = idxM sts key t ↔ key s = key t := by
  unfold idxM
  refine ⟨fun h => ?_, fun h => by rw [h]⟩
  exact idx_inj (mem_uniq.mpr (List.mem_map.mpr ⟨s, hs, rfl⟩)) h
theorem part_len {sts : List Nat} {M : Nat → Nat} {c : Nat} (p : Part sts M c) : (uniq (sts.map M)).length = c := by
  have h1 : (uniq (sts.map M)).length ≤ c := nodup_lt (uniq_nodup _) fun x hx => by
    obtain ⟨s, hs, rfl⟩ := List.mem_map.mp (mem_uniq.mp hx)
    exact p.lt s hs
  have h2 : (List.range c).length ≤ (uniq (sts.map M)).length := nodup_sub' _ _ List.nodup_range fun x hx => by
    obtain ⟨s, hs, e⟩ := p.onto x (List.mem_range.mp hx)
    exact mem_uniq.mpr (List.mem_map.mpr ⟨s, hs, e⟩)
  rw [List.length_range] at h2
  omega
theorem part_finer {sts : List Nat} {M : Nat → Nat} {c : Nat} (p : Part sts M c) {key : Nat → κ} (h : ∀ s ∈ sts, ∀ t ∈ sts, key s = key t → M s = M t) :
    c ≤ (uniq (sts.map key)).length ∧ (c = (uniq (sts.map key)).length → ∀ s ∈ sts, ∀ t ∈ sts, M s = M t → key s = key t) := by
  let f : κ → Nat := fun k => match sts.find? (fun s => decide (key s = k)) with
    | some s => M s
    | none => 0
  have hf : ∀ s ∈ sts, f (key s) = M s := fun s hs => by
    show (match sts.find? (fun s' => decide (key s' = key s)) with | some s => M s | none => 0) = M s
    cases e : sts.find? (fun s' => decide (key s' = key s)) with
    | none =>
      rw [List.find?_eq_none] at e
      exact absurd (decide_eq_true rfl) (e s hs)
    | some s' =>
      have h1 := List.mem_of_find?_eq_some e
      have h2 := List.find?_some e
      exact h s' h1 s hs (by simpa using h2)
  have em : (sts.map key).map f = sts.map M := by
    rw [List.map_map]
    exact List.map_congr_left fun s hs => hf s hs
  have z := uniq_fine f (sts.map key)
  rw [em, part_len p] at z
  refine ⟨z.1, fun e s hs t ht q => ?_⟩
  exact z.2 e (key s) (List.mem_map.mpr ⟨s, hs, rfl⟩) (key t) (List.mem_map.mpr ⟨t, ht, rfl⟩) (by rw [hf s hs, hf t ht, q])
end
theorem part_max {sts : List Nat} {M : Nat → Nat} {c : Nat} (p : Part sts M c) (h0 : sts ≠ []) {m : Int} (h : IsMax (sts.map fun s => (M s : Int)) m) : m = c - 1 := by
  obtain ⟨hm, hle⟩ := h
  obtain ⟨s, hs, rfl⟩ := List.mem_map.mp hm
  have := p.lt s hs
  obtain ⟨t, ht, e⟩ := p.onto (c - 1) (by omega)
  have := hle (M t : Int) (List.mem_map.mpr ⟨t, ht, rfl⟩)
  omega
theorem part_le {sts : List Nat} {M : Nat → Nat} {c : Nat} (p : Part sts M c) : c ≤ sts.length := by
  have := uniq_le (sts.map M)
  rw [part_len p, List.length_map] at this
  exact this
end Ladm
namespace Ladm
open KD
theorem early_bnd {E : ES} {F : FS} {n : Nat} {B : Int} {row : Nat → List Ent} (R : RowsOf E F n B row) {found : List (Nat × Int)} (K : Known E F n B found) (hR : ∀ s, Rest E F s (fnd found s)) (hout : ∀ s, n ≤ s → (∀ a, E s a = none) ∧ F s = none) :
    (∀ s a p t, earlyE E (fnd found) s a = some (p, t) → 0 ≤ p ∧ p ≤ (n + 1 : Nat) * B) ∧ (∀ s c, earlyF F (fnd found) s = some c → 0 ≤ c ∧ c ≤ (n + 1 : Nat) * B) ∧ (∀ s r, fnd found s = some r → 0 ≤ r ∧ r ≤ n * B) := by
  have ln := length_keys_le K.nd K.lt
  have b0 := R.b0
  have vb : ∀ s r, fnd found s = some r → 0 ≤ r ∧ r ≤ n * B := fun s r h => by
    obtain ⟨_, h1, h2⟩ := K.snd s r h
    exact ⟨h1, Int.le_trans h2 (Int.mul_le_mul_of_nonneg_right (by omega) b0)⟩
  have nB : (0 : Int) ≤ n * B := Int.mul_nonneg (by omega) b0
  have e1 : ((n + 1 : Nat) : Int) * B = n * B + B := by rw [Int.natCast_add, Int.add_mul]; simp
  refine ⟨fun s a p t h => ?_, fun s c h => ?_, vb⟩
  · have h0 := (early_some hR h).2
    refine ⟨h0, ?_⟩
    unfold earlyE at h
    cases k : E s a with
    | none => rw [k] at h; cases h
    | some x =>
      obtain ⟨p0, t0⟩ := x
      rw [k] at h
      have hs : s < n := by
        by_cases c : s < n
        · exact c
        · rw [(hout s (by omega)).1 a] at k; cases k
      have bp := R.pr s p0 t0 hs (ent_row R hs k)
      cases kr : fnd found t0 with
      | none => simp [kr] at h
      | some r =>
        have := vb t0 r kr
        simp only [kr, Option.map_some, Option.some.injEq, Prod.mk.injEq] at h
        have hg : 0 ≤ (fnd found s).getD 0 := by
          cases kk : fnd found s with
          | none => exact Int.le_refl _
          | some q => exact (vb s q kk).1
        rw [e1]
        omega
  · unfold earlyF at h
    cases k : F s with
    | none => rw [k] at h; cases h
    | some c0 =>
      rw [k] at h
      have hs : s < n := by
        by_cases c : s < n
        · exact c
        · rw [(hout s (by omega)).2] at k; cases k
      have bt := R.tip s c0 hs k
      have hc : c0 - (fnd found s).getD 0 = c := by simpa using h
      have rs := hR s
      cases kk : fnd found s with
      | none =>
        rw [kk] at rs
        have := rs []
        rw [run_nil, k] at this
        cases this
      | some r =>
        rw [kk] at rs hc
        have := rs.2 [] c0 (by rw [run_nil]; exact k)
        have v := vb s r kk
        simp only [Option.getD_some] at hc
        rw [e1]
        omega
end Ladm

set_option maxRecDepth 100000
set_option maxHeartbeats 2000000
/-! classes_of_rungs -/
namespace K96
open PySem PySem.Spec PyProof.Rows L2 KD Ladm
def markL (sts : List Nat) (M : Nat → Nat) : List (Nat × V) := sts.map fun s => (s, V.int (M s : Nat))
theorem markL_keys (sts : List Nat) (M : Nat → Nat) : (markL sts M).map (·.1) = sts := by
  unfold markL
  rw [List.map_map]
  exact (List.map_congr_left fun _ _ => rfl).trans (List.map_id sts)
theorem markL_fnd {sts : List Nat} {M : Nat → Nat} {s : Nat} (h : s ∈ sts) : fnd (markL sts M) s = some (.int (M s : Nat)) := by
  induction sts with
  | nil => simp at h
  | cons t ts ih =>
    show fnd ((t, V.int (M t : Nat)) :: markL ts M) s = _
    rw [fnd_cons]
    by_cases e : t = s
    · subst e; simp
    · rw [if_neg e]
      exact ih ((List.mem_cons.mp h).resolve_left fun z => e z.symm)
def stK (sts : List Nat) : List Key := sts.map fun (s : Nat) => (Sum.inl (s : Int) : Key)
theorem zip_marks (sts : List Nat) (M : Nat → Nat) : (stK sts).zip (vNats (sts.map M)) = kvN (markL sts M) := by
  unfold stK vNats kvN markL
  rw [List.map_map, List.map_map, List.zip_map']
  rfl
theorem stK_nodup {sts : List Nat} (h : sts.Nodup) : (stK sts).Nodup := by
  unfold stK
  refine List.Pairwise.map _ (fun a b hab e => ?_) h
  have := Sum.inl.inj e
  exact hab (by omega)
theorem stK_vals (sts : List Nat) : (stK sts).map kV = sts.map fun s => V.int (s : Nat) := by
  unfold stK
  rw [List.map_map]; rfl
theorem entD_inj : ∀ x y : Ent, entD x = entD y → x = y := fun x y e => by rw [← unE_entD x, e, unE_entD]
def keyP (E : ES) (m : Nat) (M : Nat → Nat) (s : Nat) : PyData := .tuple (.int (M s : Nat) :: ((List.range m).map (E s)).map fun e => entD (mk M e))
theorem keyP_iff {E : ES} {m : Nat} {M : Nat → Nat} (hm : ∀ s a, m ≤ a → E s a = none) {s t : Nat} : keyP E m M s = keyP E m M t ↔ M s = M t ∧ ∀ a, Ladm.mk M (E s a) = Ladm.mk M (E t a) := by
  unfold keyP
  simp only [PyData.tuple.injEq, List.cons.injEq, PyData.int.injEq, List.map_map]
  constructor
  · rintro ⟨h1, h2⟩
    refine ⟨by omega, fun a => ?_⟩
    by_cases c : a < m
    · have := congrArg (fun l => l[a]?) h2
      simp only [List.getElem?_map, List.getElem?_range c, Option.map_some, Option.some.injEq, Function.comp] at this
      exact entD_inj _ _ this
    · rw [hm s a (by omega), hm t a (by omega)]
  · rintro ⟨h1, h2⟩
    refine ⟨by rw [h1], List.map_congr_left fun a _ => ?_⟩
    show entD (Ladm.mk M (E s a)) = entD (Ladm.mk M (E t a))
    rw [h2 a]
theorem keyP_keyable (E : ES) (m : Nat) (M : Nat → Nat) (s : Nat) : keyable 8 (keyP E m M s) = true ∧ ∃ l, keyP E m M s = .tuple l := by
  refine ⟨?_, _, rfl⟩
  have h : ∀ es : List Ent, keyableAll 7 (es.map fun e => entD (Ladm.mk M e)) = true := fun es => by
    induction es with
    | nil => rfl
    | cons e es ih =>
      rw [List.map_cons]
      simp only [keyableAll, Bool.and_eq_true]
      refine ⟨?_, ih⟩
      cases e with
      | none => rfl
      | some x => rfl
  unfold keyP
  simp only [keyable, keyableAll, Bool.true_and]
  exact h _
section
variable {K : PySem.W.Frag} {H : Hp} {σ : L2.St} {ta tb : TE}
theorem evd_cat {ds es : List PyData} (ha : EvD K ta σ H (.tuple ds)) (hb : EvD K tb σ H (.tuple es)) (hl : ds.length + es.length ≤ 100000) : EvD K (tOp (rCatA K) ta tb) σ H (.tuple (ds ++ es)) := evd_op ha hb fun H1 s x y p q Q hq => by
  obtain ⟨a, xs, rfl, h1, h2⟩ := p.tupE
  obtain ⟨b, ys, rfl, h3, h4⟩ := q.tupE
  have l1 := h2.length
  have l2 := h4.length
  refine ⟨a, b, xs, ys, rfl, rfl, h1, h3, by rw [sizeLine_eq]; omega, fun e => ?_, fun _ e => ?_, fun _ _ p hp => ?_⟩
  · subst e
    cases h2
    exact hq _ H1 (Same.refl _) (.tup h3 h4)
  · subst e
    cases h4
    rw [List.append_nil] at hq
    exact hq _ H1 (Same.refl _) (.tup h1 h2)
  · exact hq _ _ (same_new hp) (.tup (.inl (.inl upd_same)) ((h2.append h4).mono (same_new hp)))
end
theorem evd_eqI {K : PySem.W.Frag} {H : Hp} {σ : L2.St} {ta tb : TE} {i j : Int} (ha : EvD K ta σ H (.int i)) (hb : EvD K tb σ H (.int j)) : EvD K (tOp rEq ta tb) σ H (.bool (decide (i = j))) := evd_op ha hb fun H1 s x y p q Q hq => by
  cases p; cases q
  refine ⟨rfl, ?_⟩
  have : decide (V.int i = V.int j) = decide (i = j) := by
    by_cases c : i = j
    · subst c; simp
    · rw [decide_eq_false c, decide_eq_false fun z => c (V.int.inj z)]
  rw [this]
  exact hq _ H1 (Same.refl _) (.bl _)
theorem evq_dictZip {K : PySem.W.Frag} {H : Hp} {σ : L2.St} {D : Ends} {u : TS} {sp : Sp} {E : XK} {te : TE} {i j : Nat} {p : Addr} (hv : σ[i]? = some (some (.ref p)))
    (h : te σ H fun v H1 => sp [v] H1 (fun v2 H2 => ∃ (a b : Addr) (ks : List Key) (ys : List V), [V.ref p, v2] = [.ref a, .ref b] ∧ SqL K H2 a (ks.map kV) ∧ SqL K H2 b ys ∧ ks.length = ys.length ∧ ks.Nodup ∧ ∀ q, H2 q = none → u D (σ.set j (some (.ref q))) (upd H2 q (.dK (ks.zip ys)))) E) :
    tSeq (tAsg (tDictZip K (tCons (tVar i) (tCons (tCall sp [] E (tCons te tNil)) tNil))) (gName j)) u D σ H := ⟨.ref p, hv, h⟩
def rowE (E : ES) (m : Nat) (s : Nat) : List Ent := (List.range m).map (E s)
section
variable {P : Program} {w : World} {K : PySem.W.Frag} {mg : Str → Option Value} {base : Heap}
def spClasses (K : PySem.W.Frag) : Sp := fun vs H Q _ => ∃ (aT aL : Addr) (keys : List Nat) (E : ES) (F : FS) (m : Nat), vs = [.ref aT, .ref aL] ∧ ToldAt K H aT keys (rowE E m) ∧ LastAt H aL keys F ∧ keys.Nodup ∧ keys.length ≤ 63 ∧ keys ≠ [] ∧ m ≤ 100 ∧
  Early E F (· ∈ keys) ∧ (∀ s a, m ≤ a → E s a = none) ∧
  (∀ aM M sts H', sts.Perm keys → Same H H' → H' aM = some (.dK (kvN (markL sts M))) → Stable E F (· ∈ keys) M → Coarse E F (· ∈ keys) M → Q (.ref aM) H')
theorem ok_classes (T : Txt K mg) : FnOk P w K mg base CX0 2 T.A_classes_of_rungs.f T.A_classes_of_rungs.d ["told", "last"] (spClasses K) := by
  refine T.A_classes_of_rungs.F.ok sc_classes_of_rungs (fun vs H Q E h => ?_) (fun cdv A outer s H vs Q E hr h => ?_)
  · obtain ⟨_, _, _, _, _, _, rfl, _⟩ := h; rfl
  · obtain ⟨aT, aL, keys, E, F, m, rfl, told, last, nd, hk, h0, hm, early, hout, q⟩ := h
    refine ⟨_, ((pss_cons (ps_set (i := 2) sc_classes_of_rungs.nd rfl (.inl rfl) (pe_callB kSortDI (by rfl) T.n_sorted (by decide +kernel) (pa_cons (pv 0) pa_nil)))
  (pss_cons (ps_set (i := 3) sc_classes_of_rungs.nd rfl (.inr rfl) (pe_dictZip rfl (by rfl) T.n_dict (by rfl) T.n_zip (pa_cons (pv 2) (pa_cons (pe_call (ok_numberedN T) (hr.mono (by decide)) (by rfl) T.A_numbered.g T.A_numbered.F.kp T.A_numbered.b .nil pass0 (pa_cons (pe_lc (own := [("state", 5)]) (g := gName 5) (tt := tYes) rfl sc_classes_of_rungs.nd (kiList (K := K) (pv 2)) (blkOk_by (own := [("state", 5)]) (N := ["told", "last", "states", "marks", "keys", "state", "row", "new", "entry"]) (sc := defScope s_classes_of_rungs) (by decide +kernel)) (fun _ _ _ _ _ => (pg_name (i := 5) sc_classes_of_rungs.nd rfl (.inl rfl))) (fun _ _ _ _ _ => pts_nil) (fun _ _ _ _ _ => (pe_dget (hu_of hr) (pv 1) (pv 5) (fun _ _ => rfl)))) pa_nil)) pa_nil))))
  (pss_one (ps_while PassesOwn.never (pt_val pe_bl)
    (pss_cons (ps_set (i := 4) sc_classes_of_rungs.nd rfl (.inl rfl) (pe_lst pa_nil))
  (pss_cons (ps_for PassesOwn.never rfl (kiList (K := K) (pv 2)) (pg_name (i := 5) sc_classes_of_rungs.nd rfl (.inl rfl))
    (pss_cons (ps_setLc (i := 6) (own := [("entry", 8)]) (g := gName 8) (tt := tYes) rfl sc_classes_of_rungs.nd rfl rfl (sw_true rfl rfl rfl (by decide +kernel)) (kiList (K := K) (pe_dget (hu_of hr) (pv 0) (pv 5) (fun _ _ => rfl))) (blkOk_by (own := [("entry", 8)]) (N := ["told", "last", "states", "marks", "keys", "state", "row", "new", "entry"]) (sc := defScope s_classes_of_rungs) (by decide +kernel)) (fun _ _ _ _ _ => (pg_name (i := 8) sc_classes_of_rungs.nd rfl (.inl rfl))) (fun _ _ _ _ _ => pts_nil) (fun _ _ _ _ _ => (pe_ifExp (pt_cmpR op_isN (pv 8) pe_non (nomark _)) pe_non (pe_tup (pa_cons (pe_ix (kIxT (K := K)) (pv 8) pe_int (fun _ _ => rfl)) (pa_cons (pe_dget (hu_of hr) (pv 3) (pe_ix (kIxT (K := K)) (pv 8) pe_int (fun _ _ => rfl)) (fun _ _ => rfl)) pa_nil))))))
  (pss_one (ps_expr (pe_bm PySem.F.plainAttrs_list PySem.F.slot_list_append PySem.F.type_list_append mt_append (pv 4) (pa_cons (pe_op (kCatT (K := K)) (pe_tup (pa_cons (pe_dget (hu_of hr) (pv 3) (pv 5) (fun _ _ => rfl)) pa_nil)) (pe_callTy (kTup (K := K)) (by rfl) T.n_tuple (by decide +kernel) (pa_cons (pv 6) pa_nil))) pa_nil))))))
  (pss_cons (ps_set (i := 7) sc_classes_of_rungs.nd rfl (.inr rfl) (pe_dictZip rfl (by rfl) T.n_dict (by rfl) T.n_zip (pa_cons (pv 2) (pa_cons (pe_call (ok_numberedT T) (hr.mono (by decide)) (by rfl) T.A_numbered.g T.A_numbered.F.kp T.A_numbered.b .nil pass0 (pa_cons (pv 4) pa_nil)) pa_nil))))
  (pss_cons (ps_if (pt_cmpR op_eq (pe_callB (kMax (K := K)) (by rfl) T.n_max (by decide +kernel) (pa_cons (pe_lc (own := [("state", 5)]) (g := gName 5) (tt := tYes) rfl sc_classes_of_rungs.nd (kiList (K := K) (pv 2)) (blkOk_by (own := [("state", 5)]) (N := ["told", "last", "states", "marks", "keys", "state", "row", "new", "entry"]) (sc := defScope s_classes_of_rungs) (by decide +kernel)) (fun _ _ _ _ _ => (pg_name (i := 5) sc_classes_of_rungs.nd rfl (.inl rfl))) (fun _ _ _ _ _ => pts_nil) (fun _ _ _ _ _ => (pe_dget (hu_of hr) (pv 7) (pv 5) (fun _ _ => rfl)))) pa_nil)) (pe_callB (kMax (K := K)) (by rfl) T.n_max (by decide +kernel) (pa_cons (pe_lc (own := [("state", 5)]) (g := gName 5) (tt := tYes) rfl sc_classes_of_rungs.nd (kiList (K := K) (pv 2)) (blkOk_by (own := [("state", 5)]) (N := ["told", "last", "states", "marks", "keys", "state", "row", "new", "entry"]) (sc := defScope s_classes_of_rungs) (by decide +kernel)) (fun _ _ _ _ _ => (pg_name (i := 5) sc_classes_of_rungs.nd rfl (.inl rfl))) (fun _ _ _ _ _ => pts_nil) (fun _ _ _ _ _ => (pe_dget (hu_of hr) (pv 3) (pv 5) (fun _ _ => rfl)))) pa_nil)) (nomark _)) (pss_one (ps_ret (pv 3))) pss_nil)
  (pss_one (ps_set (i := 3) sc_classes_of_rungs.nd rfl (.inr rfl) (pv 7)))))))))))), ?_⟩
    obtain ⟨lT, eT, keyT, hT⟩ := told
    obtain ⟨lL, eL, keyL, hL⟩ := last
    have kvkeys : (kvN lT).map (·.1) = (keys.map fun s : Nat => (s : Int)).map Sum.inl := by
      rw [← keyT]
      unfold kvN
      rw [List.map_map, List.map_map, List.map_map]; rfl
    refine ⟨.ref aT, rfl, aT, kvN lT, keys.map fun s : Nat => (s : Int), rfl, .inl eT, kvkeys, by rw [List.length_map]; omega, fun ys p perm _ hp => ?_⟩
    obtain ⟨sts, rfl, pm⟩ : ∃ sts : List Nat, ys = (sts.map fun s : Nat => (s : Int)) ∧ sts.Perm keys := by
      refine ⟨ys.map Int.toNat, ?_, ?_⟩
      · rw [List.map_map]
        refine ((List.map_congr_left fun y hy => ?_).trans (List.map_id ys)).symm
        obtain ⟨s, _, rfl⟩ := List.mem_map.mp (perm.mem_iff.mp hy)
        simp
      · have := perm.map Int.toNat
        rw [List.map_map] at this
        refine this.trans (.of_eq ?_)
        exact (List.map_congr_left fun s _ => by simp).trans (List.map_id keys)
    have eI : (sts.map fun s : Nat => (s : Int)).map V.int = sts.map fun s => V.int (s : Nat) := by rw [List.map_map]; rfl
    rw [eI]
    have s1 := same_new (o := .lst (sts.map fun s => V.int (s : Nat))) hp
    have eS : (upd H p (.lst (sts.map fun s => V.int (s : Nat)))) p = some (.lst (sts.map fun s => V.int (s : Nat))) := upd_same
    revert s1 eS
    generalize upd H p (.lst (sts.map fun s => V.int (s : Nat))) = H1
    intro s1 eS
    have dS : ∀ H', DqAll K H' (sts.map fun s => V.int (s : Nat)) (sts.map fun s => PyData.int (s : Nat)) := fun H' => vNats_dq sts
    have slen : sts.length = keys.length := pm.length_eq
    have snd : sts.Nodup := pm.nodup_iff.mpr nd
    have sne : sts ≠ [] := fun z => h0 (by rw [z] at pm; exact List.Perm.nil_eq pm |>.symm)
    have smem : ∀ {s}, s ∈ sts ↔ s ∈ keys := fun {s} => pm.mem_iff
    have getL : ∀ s, s ∈ sts → fnd lL s = some (tipV (F s)) := fun s hs => by
      have : s ∈ lL.map (·.1) := by rw [keyL]; exact smem.mp hs
      cases k : fnd lL s with
      | none => exact absurd this (fnd_none.mp k)
      | some v =>
        exact congrArg some (hL _ (fnd_mem k))
    have getT : ∀ s, s ∈ sts → ∃ pr xr, fnd lT s = some (.ref pr) ∧ H pr = some (.lst xr) ∧ DqAll K H xr ((rowE E m s).map entD) := fun s hs => by
      have : s ∈ lT.map (·.1) := by rw [keyT]; exact smem.mp hs
      cases k : fnd lT s with
      | none => exact absurd this (fnd_none.mp k)
      | some v =>
        obtain ⟨pr, xr, e1, e2, e3⟩ := hT _ (fnd_mem k)
        have e1 : v = .ref pr := e1
        subst e1
        exact ⟨pr, xr, rfl, e2, e3⟩
    let keyN : Nat → Option Key := fun s => (F s).map Sum.inl
    have keyNd : ∀ s, keyD (keyN s) = tipD (F s) := fun s => by show keyD ((F s).map Sum.inl) = _; cases F s <;> rfl
    have lcN : EvL K (tLc (iList K (tVar 2)) (gName 5) tYes (tDGet (tVar 1) (tVar 5)) [5]) [some (.ref aT), some (.ref aL), some (.ref p), none, none, none, none, none, none] H1 ((sts.map keyN).map keyD) := by
      refine EvL.is (evl_map (i := 5) (evi_listS (.inl (.inl eS)) (dS H1) (evr_v 2 rfl)) (by rw [List.length_map]; omega) (fun d => match d with | .int s => tipD (F s.toNat) | _ => .none) fun d xe H2 hd s2 dxe => ?_) ?_
      · obtain ⟨s, hs, rfl⟩ := List.mem_map.mp hd
        cases dxe
        show EvD K _ _ H2 (tipD (F ((s : Nat) : Int).toNat))
        rw [Int.toNat_natCast]
        exact evd_dget (.inl ((s1.trans s2) _ _ eL)) (evr_v 1 rfl) (evd_v 5 rfl (.int _)) (getL s hs) (tipV_dq _)
      · rw [List.map_map, List.map_map]
        refine List.map_congr_left fun s _ => ?_
        show tipD (F ((s : Nat) : Int).toNat) = keyD (keyN s)
        rw [Int.toNat_natCast, keyNd]
    refine evq_dictZip (K := K) (p := p) rfl ?_
    refine lcN.use _ fun pk xk H2 hpk s2 e2 d2 => ?_
    refine ⟨pk, xk, sts.map keyN, rfl, .inl (.inl e2), d2, by rw [List.length_map]; omega, fun qn H3 hqn s3 e3 => ?_⟩
    rw [numbered_idxM] at e3
    refine ⟨p, qn, stK sts, vNats (sts.map (idxM sts keyN)), rfl, .inl (.inl (by rw [stK_vals]; exact s3 _ _ (s2 _ _ eS))), .inl (.inl e3), by simp [stK, vNats], stK_nodup snd, fun aM haM => ?_⟩
    rw [zip_marks]
    have s4 := same_new (o := .dK (kvN (markL sts (idxM sts keyN)))) haM
    refine ⟨fun k σ' H' => ∃ (M : Nat → Nat) (c : Nat) (x4 x5 x6 x7 : Option V) (aM : Addr), σ' = [some (.ref aT), some (.ref aL), some (.ref p), some (.ref aM), x4, x5, x6, x7, none] ∧ Same H1 H' ∧ H' aM = some (.dK (kvN (markL sts M))) ∧
      Part sts M c ∧ Coarse E F (· ∈ keys) M ∧ (∀ s t, s ∈ keys → t ∈ keys → M s = M t → F s = F t) ∧ k = sts.length - c, ⟨_, idxM sts keyN, _, none, none, none, none, aM, rfl, (s2.trans s3).trans s4, upd_same, part_idxM sts keyN, coarse_first fun s t hs ht e => (idxM_iff (smem.mpr hs) (smem.mpr ht)).mpr (by show (F s).map Sum.inl = (F t).map Sum.inl; rw [e]), fun s t hs ht e => ?_, rfl⟩, ?_⟩
    · have := (idxM_iff (smem.mpr hs) (smem.mpr ht)).mp e
      have : (F s).map Sum.inl = ((F t).map Sum.inl : Option Key) := this
      cases h1 : F s <;> cases h2 : F t <;> rw [h1, h2] at this <;> first | rfl | (cases this; done) | (simp at this; rw [this])
    clear aM haM s4 e3 hqn s3 qn H3 d2 e2 s2 hpk xk pk H2
    rintro k σ' H' ⟨M, c, x4, x5, x6, x7, aM, rfl, sH, eM, pt, co, fi, ek⟩
    refine (evb_test (K := K) evd_bl) H' (Same.refl _) _ fun H2 s2 => ?_
    refine iteT ⟨_, fun σ'' H'' hN => hN, ?_⟩
    refine evq_setL (K := K) (ds := []) (evl_lst eva_nil (by simp)) fun p4 xs4 H3 hp4 s3 e4 d4 => ?_
    cases d4
    have sH2 := sH.trans s2
    have eM2 := s2 _ _ eM
    have dsl : (sts.map fun s => PyData.int (s : Nat)).length = sts.length := List.length_map ..
    refine evq_for (K := K) (evi_listF (.inl (.inl ((sH2.trans s3) _ _ eS))) (dS H3) (evr_v 2 rfl)) (fun _ i σ' H' => ∃ (x5 x6 : Option V) (acc : List V), σ' = [some (.ref aT), some (.ref aL), some (.ref p), some (.ref aM), some (.ref p4), x5, x6, x7, none] ∧ Same H2 H' ∧ H' p4 = some (.lst acc) ∧ DqAll K H' acc ((sts.take i).map (keyP E m M)))
      (fun _ i σ' H' _ _ ⟨_, _, _, _, s, _⟩ => ⟨.inl (.inl ((sH2.trans s) _ _ eS)), dS H'⟩) (fun Hb sb => ⟨x5, x6, [], rfl, s3.trans sb, sb _ _ e4, .nil⟩) (fun Hb i d σ' H' x H'' sb hd ⟨y5, y6, acc, eσ, s5, ea, da⟩ s6 dx => ?_) fun Hb σ' H' sb ⟨y5, y6, acc, eσ, s5, ea, da⟩ => ?_
    · subst eσ
      rw [List.getElem?_map] at hd
      obtain ⟨s, hs, rfl⟩ : ∃ s, sts[i]? = some s ∧ d = .int (s : Nat) := by
        cases e : sts[i]? with
        | none => rw [e] at hd; cases hd
        | some s => rw [e] at hd; exact ⟨s, rfl, (Option.some.inj hd).symm⟩
      cases dx
      have hsm := List.mem_of_getElem? hs
      obtain ⟨pr, xr, g1, g2, g3⟩ := getT s hsm
      have sH6 := sH2.trans (s5.trans s6)
      have sHH := s1.trans sH6
      have eM6 : H'' aM = some (.dK (kvN (markL sts M))) := (s5.trans s6) _ _ eM2
      have rlen : (rowE E m s).length = m := by simp [rowE]
      have ref0 : Ref (tDGet (tVar 0) (tVar 5)) [some (.ref aT), some (.ref aL), some (.ref p), some (.ref aM), some (.ref p4), some (.int (s : Nat)), y6, x7, none] H'' pr := fun H7 s7 Q hQ => ⟨.ref aT, rfl, .int (s : Nat), rfl, aT, .ref pr, rfl, .inl ⟨kvN lT, .inl (s : Int), .inl ((sHH.trans s7) _ _ eT), rfl, by rw [valV_kvN, g1]⟩, hQ H7 (Same.refl _)⟩
      have comp : EvL K (tLc (iList K (tDGet (tVar 0) (tVar 5))) (gName 8) tYes (tIf (tTest (tOp rIsN (tVar 8) (tC .non))) (tC .non) (tTup (tCons (tOp (rIxT K) (tVar 8) (tC (.int 0))) (tCons (tDGet (tVar 3) (tOp (rIxT K) (tVar 8) (tC (.int 1)))) tNil)))) [8])
          [some (.ref aT), some (.ref aL), some (.ref p), some (.ref aM), some (.ref p4), some (.int (s : Nat)), y6, x7, none] H'' (((rowE E m s).map entD).map fun d => entD (Ladm.mk M (unE d))) := by
        refine evl_map (i := 8) (evi_listS (.inl (.inl (sHH _ _ g2))) (g3.mono sHH) ref0) (by rw [List.length_map]; omega) _ fun d xe H7 hd s7 dxe => ?_
        obtain ⟨e, he, rfl⟩ := List.mem_map.mp hd
        have v8 : EvD K (tVar 8) [some (.ref aT), some (.ref aL), some (.ref p), some (.ref aM), some (.ref p4), some (.int (s : Nat)), y6, x7, some xe] H7 (entD e) := evd_v 8 rfl dxe
        rw [unE_entD]
        cases e with
        | none => exact evp_if (b := true) (evb_test (evd_isN v8)) (fun _ => evd_non) fun z => nomatch z
        | some pt' =>
          obtain ⟨pc, t⟩ := pt'
          have ht : t ∈ sts := by
            obtain ⟨a, _, ea⟩ := List.mem_map.mp he
            exact smem.mpr (early.inn s a pc t (smem.mp hsm) ea)
          refine evp_if (b := false) (evb_test (evd_isN v8)) (fun z => nomatch z) fun _ => ?_
          exact evd_tup (eva_cons (evd_ixT (i := 0) v8 evd_int rfl) (eva_cons (evd_dget (.inl (s7 _ _ eM6)) (evr_v 3 rfl) (evd_ixT (i := 1) v8 evd_int rfl) (markL_fnd ht) (.int _)) eva_nil)) (by simp)
      refine evq_setL comp fun p6 xs6 H7 hp6 s7 e6 d6 => ?_
      have dsE : ((rowE E m s).map entD).map (fun d => entD (Ladm.mk M (unE d))) = (rowE E m s).map fun e => entD (Ladm.mk M e) := by
        rw [List.map_map]
        exact List.map_congr_left fun e _ => by simp only [Function.comp, unE_entD]
      rw [dsE] at d6
      have la : acc.length ≤ 63 := by rw [da.length, List.length_map, List.length_take]; omega
      refine evs_append (K := K) (s7 _ _ (s6 _ _ ea)) (by omega) (evr_v 4 rfl) (evd_cat (evd_tup (eva_cons (evd_dget (.inl (s7 _ _ eM6)) (evr_v 3 rfl) (evd_v 5 rfl (.int _)) (markL_fnd hsm) (.int _)) eva_nil) (by simp)) (evd_tupleLs (.inl (.inl e6)) d6 (evr_v 6 rfl)) (by simp [rlen]; omega)) fun v H8 s8 p8 => ?_
      have s68 := s6.trans (s7.trans s8)
      have ea8 := s68 _ _ ea
      refine ⟨_, _, acc ++ [v], rfl, same_mut (s5.trans s68) hp4, upd_same, ?_⟩
      rw [List.take_add_one, hs, List.map_append]
      exact ((da.mono s68).kp (.updL ea8)).snoc (p8.kp (.updL ea8))
    · subst eσ
      rw [dsl, List.take_length] at da
      have sH5 := sH2.trans s5
      have eM5 := s5 _ _ eM2
      refine evq_dictZip (K := K) (p := p) rfl ⟨.ref p4, rfl, ?_⟩
      refine ⟨p4, acc, sts.map (keyP E m M), rfl, .inl (.inl ea), da, (fun d hd => by obtain ⟨s, _, rfl⟩ := List.mem_map.mp hd; exact keyP_keyable E m M s), by rw [List.length_map]; omega, fun qn H6 hqn s6 e6 => ?_⟩
      rw [numbered_idxM] at e6
      refine ⟨p, qn, stK sts, vNats (sts.map (idxM sts (keyP E m M))), rfl, .inl (.inl (by rw [stK_vals]; exact (sH5.trans s6) _ _ eS)), .inl (.inl e6), by simp [stK, vNats], stK_nodup snd, fun aN haN => ?_⟩
      rw [zip_marks]
      have s7 := same_new (o := .dK (kvN (markL sts (idxM sts (keyP E m M))))) haN
      have eN : (upd H6 aN (.dK (kvN (markL sts (idxM sts (keyP E m M)))))) aN = some (.dK (kvN (markL sts (idxM sts (keyP E m M))))) := upd_same
      revert s7 eN
      generalize upd H6 aN (.dK (kvN (markL sts (idxM sts (keyP E m M))))) = H7
      intro s7 eN
      have s57 := s6.trans s7
      have eM7 := s57 _ _ eM5
      have pN := part_idxM sts (keyP E m M)
      generalize hMN : idxM sts (keyP E m M) = MN at *
      generalize hcN : (uniq (sts.map (keyP E m M))).length = cN at *
      have finer := part_finer pt (key := keyP E m M) fun s _ t _ e => ((keyP_iff hout).mp e).1
      rw [hcN] at finer
      have maxE : ∀ (j : Nat) (a : Addr) (M' : Nat → Nat) (c' : Nat) (H8 : Hp), Same H7 H8 → H8 a = some (.dK (kvN (markL sts M'))) → Part sts M' c' → ([some (.ref aT), some (.ref aL), some (.ref p), some (.ref aM), some (.ref p4), none, y6, some (.ref aN), none] : L2.St)[j]? = some (some (.ref a)) → j ≠ 5 →
          EvD K (tCB (rMax K) (tCons (tLc (iList K (tVar 2)) (gName 5) tYes (tDGet (tVar j) (tVar 5)) [5]) tNil)) [some (.ref aT), some (.ref aL), some (.ref p), some (.ref aM), some (.ref p4), y5, y6, some (.ref aN), none] H8 (.int (c' - 1)) := fun j a M' c' H8 s8 e8 p8 hj j5 => by
        have comp : EvL K (tLc (iList K (tVar 2)) (gName 5) tYes (tDGet (tVar j) (tVar 5)) [5]) [some (.ref aT), some (.ref aL), some (.ref p), some (.ref aM), some (.ref p4), y5, y6, some (.ref aN), none] H8 ((sts.map fun s => (M' s : Int)).map .int) := by
          refine EvL.is (evl_map (i := 5) (evi_listS (.inl (.inl ((sH5.trans (s57.trans s8)) _ _ eS))) (dS H8) (evr_v 2 rfl)) (by rw [List.length_map]; omega) (fun d => match d with | .int s => .int (M' s.toNat : Nat) | _ => .none) fun d xe H9 hd s9 dxe => ?_) ?_
          · obtain ⟨s, hs, rfl⟩ := List.mem_map.mp hd
            cases dxe
            show EvD K _ _ H9 (.int (M' ((s : Nat) : Int).toNat : Nat))
            rw [Int.toNat_natCast]
            refine evd_dget (.inl (s9 _ _ e8)) (fun H10 _ Q hQ => ⟨.ref a, ?_, hQ H10 (Same.refl _)⟩) (evd_v 5 rfl (.int _)) (markL_fnd hs) (.int _)
            show (List.set [some (.ref aT), some (.ref aL), some (.ref p), some (.ref aM), some (.ref p4), none, y6, some (.ref aN), none] 5 (some (.int (s : Nat))))[j]? = _
            rw [List.getElem?_set_ne (Ne.symm j5)]
            exact hj
          · rw [List.map_map, List.map_map]
            refine List.map_congr_left fun s _ => ?_
            show PyData.int (M' ((s : Nat) : Int).toNat : Nat) = _
            rw [Int.toNat_natCast]; rfl
        exact (evp_maxL comp (by simpa using sne)).imp fun r ⟨mm, e, hm⟩ => by rw [e, part_max p8 sne hm]
      refine evq_ifn (b := decide ((cN : Int) - 1 = (c : Int) - 1)) (evb_test (evd_eqI (maxE 7 aN MN cN H7 (Same.refl _) eN pN rfl (by decide)) (maxE 3 aM M c H7 (Same.refl _) eM7 pt rfl (by decide)))) (fun hb H8 s8 => ?_) fun hb H8 s8 => ?_
      · have hc : (cN : Int) - 1 = (c : Int) - 1 := of_decide_eq_true hb
        refine ⟨.ref aM, rfl, q aM M sts H8 pm (s1.trans (sH5.trans (s57.trans s8))) (s8 _ _ eM7) (fun s t hs ht e => ⟨fi s t hs ht e, ?_⟩) co⟩
        exact ((keyP_iff hout).mp (finer.2 (by omega) s (smem.mpr hs) t (smem.mpr ht) e)).2
      · have hc : ¬ (cN : Int) - 1 = (c : Int) - 1 := of_decide_eq_false hb
        have lt : c < cN := by have := finer.1; omega
        have le := part_le pN
        refine ⟨.ref aN, rfl, sts.length - cN, by rw [ek]; omega, MN, cN, _, _, _, _, aN, rfl, sH5.trans (s57.trans s8), s8 _ _ eN, pN, coarse_next early co fun s t hs ht e1 e2 => ?_, fun s t hs ht e => ?_, rfl⟩
        · rw [← hMN]
          exact (idxM_iff (smem.mpr hs) (smem.mpr ht)).mpr ((keyP_iff hout).mpr ⟨e1, e2⟩)
        · rw [← hMN] at e
          exact fi s t hs ht ((keyP_iff hout).mp ((idxM_iff (smem.mpr hs) (smem.mpr ht)).mp e)).1
end
end K96

set_option maxRecDepth 100000
set_option maxHeartbeats 4000000
/-! tuple * 1, and tuple * k in one rule -/
namespace KD
open PySem PySem.Spec PyProof.Rows L2
theorem tuple_mul1 (l : Addr) (items : Array Value) (n : Nat) (dd : Option Addr) (sl : Array (Option Value)) (u : Tok) :
    Meets (Builtin.«tuple.__mul__» ⟨[.ref l, .int 1 u], []⟩) (fun _ R s => s.heap.get? l = some { cls := .type "tuple", dict := dd, data := .seq items n, slots := sl } ∧ R (.ok (.ret (Value.ref l))) s) :=
  .of_wp fun prog w A R s h => by
    obtain ⟨hp, g, d, tk, os⟩ := s
    obtain ⟨hl, h⟩ := h
    have f1 := AutoSeq1.idx_int
    wp_walk using wpAny_loadPart' hl
    exact ⟨_, rfl, h⟩
def rRepU (K : PySem.W.Frag) : R2 := fun x y H Q => (∃ l xs, x = .ref l ∧ y = .int 1 ∧ SqT K H l xs ∧ Q x H) ∨ rRepT K x y H Q
section
variable {X : Cx}
theorem op_repU {K : PySem.W.Frag} (hK : X.K = K := by rfl) : OpR X (binaryOp .Mult) (rRepU K) := by
  subst hK
  intro pins s σ H x y v u Q I rx ry h
  rcases h with h | h
  · obtain ⟨l, xs, rfl, rfl, hT, q⟩ := h
    cases rx
    obtain ⟨t, rfl⟩ := ry
    obtain ⟨its, r, ⟨⟨cls, dd, data, sl⟩, ho, hc, n, hd⟩, hs⟩ := I.tuple hT
    simp only at hc hd
    subst hc hd
    refine wpAny_binaryOp_repeat_ref (T := "tuple") (U := "int") (by decide) ⟨_, ho, rfl⟩ (fun s' => typeIs_int s' 1 t) noFill_tuple_mul F.fills_int_mul F.slot_int_rmul repeat_tuple F.slot_int_index.lookup
      (call_meets F.slot_int_rmul (typeIs_int s 1 t) F.entry_int_rmul (F.args_int_rmul_2 _ _) (int_rmul_tuple 1 t l its.toArray n dd sl)
        ⟨ho, rfl, ⟨_, ho, rfl⟩, call_meets F.slot_tuple_mul ⟨_, ho, rfl⟩ F.entry_tuple_mul (F.args_tuple_mul_2 _ _) (tuple_mul1 l its.toArray n dd sl t) ⟨ho, ?_⟩⟩)
    exact ⟨.ref l, H, I, rfl, q⟩
  · exact op_repT pins s σ H x y v u Q I rx ry h
end
section
variable {K : PySem.W.Frag} {H : Hp} {σ : L2.St} {ta tb : TE} {d : PyData}
theorem flat_one {α : Type} (x : α) : ∀ n : Nat, (List.replicate n [x]).flatten = List.replicate n x
  | 0 => rfl
  | n + 1 => by rw [List.replicate_succ, List.flatten_cons, flat_one x n, List.replicate_succ]; rfl
theorem evd_rep1 {k : Nat} (ha : EvD K ta σ H (.tuple [d])) (hb : EvD K tb σ H (.int (k : Nat))) (h1 : 1 ≤ k) (h2 : k ≤ 1000) : EvD K (tOp (rRepU K) ta tb) σ H (.tuple (List.replicate k d)) := evd_op ha hb fun H1 s x y p q Q hq => by
  cases q
  by_cases c : k = 1
  · subst c
    obtain ⟨a, xs, rfl, h3, h4⟩ := p.tupE
    exact .inl ⟨a, xs, rfl, rfl, h3, hq _ H1 (Same.refl _) (.tup h3 h4)⟩
  · obtain ⟨a, xs, rfl, h3, h4⟩ := p.tupE
    obtain ⟨v, rfl, h5⟩ := h4.single
    refine .inr ⟨a, k, [v], rfl, rfl, h3, by simp, by omega, by omega, by simp, fun p2 hp2 => hq _ _ (same_new hp2) (.tup (.inl (.inl upd_same)) ?_)⟩
    rw [Int.toNat_natCast, flat_one]
    exact rep_all (h5.mono (same_new hp2)) k
where rep_all {H : Hp} {v : V} {d : PyData} (h : Dq K H v d) : ∀ k : Nat, DqAll K H (List.replicate k v) (List.replicate k d)
  | 0 => .nil
  | k + 1 => .cons h (rep_all h k)
end
end KD

set_option maxRecDepth 100000
set_option maxHeartbeats 2000000
/-! least_of_ladder -/
namespace K96
open PySem PySem.Spec PyProof.Rows L2 KD Ladm
def numG : Nat → List Nat → List (Nat × V)
  | _, [] => []
  | j, k :: ks => (k, V.int (j : Nat)) :: numG (j + 1) ks
theorem numG_keys : ∀ (ks : List Nat) (j : Nat), (numG j ks).map (·.1) = ks
  | [], _ => rfl
  | k :: ks, j => by
    show k :: (numG (j + 1) ks).map (·.1) = _
    rw [numG_keys ks (j + 1)]
theorem numG_snoc (k : Nat) : ∀ (ks : List Nat) (j : Nat), numG j (ks ++ [k]) = numG j ks ++ [(k, V.int ((j + ks.length : Nat) : Int))]
  | [], j => rfl
  | q :: ks, j => by
    show (q, V.int (j : Nat)) :: numG (j + 1) (ks ++ [k]) = _
    rw [numG_snoc k ks (j + 1)]
    have : j + 1 + ks.length = j + (q :: ks).length := by simp; omega
    rw [this]; rfl
theorem numG_fnd {k : Nat} : ∀ (ks : List Nat) (j : Nat), k ∈ ks → fnd (numG j ks) k = some (.int ((j + ks.idxOf k : Nat) : Int))
  | [], _, h => by simp at h
  | q :: ks, j, h => by
    show fnd ((q, V.int (j : Nat)) :: numG (j + 1) ks) k = _
    rw [fnd_cons]
    by_cases e : q = k
    · subst e
      simp
    · have ix : List.idxOf k (q :: ks) = List.idxOf k ks + 1 := by
        rw [List.idxOf_cons, show (q == k) = false from beq_eq_false_iff_ne.mpr e]; rfl
      rw [if_neg e, numG_fnd ks (j + 1) ((List.mem_cons.mp h).resolve_left fun z => e z.symm), ix]
      congr 3
      omega
theorem none_cost (m : Nat) (w : List Nat) : (noneLad m).cost w = none := by
  unfold Lad.cost noneLad
  cases w with
  | nil => rfl
  | cons a w =>
    have : ent [List.replicate m none] 0 a = none := by
      unfold ent
      by_cases ha : a < m
      · simp [ha]
      · simp [List.getElem?_eq_none (l := List.replicate m (none : Ent)) (i := a) (by simpa using ha)]
    rw [run_none this]; rfl
theorem none_ent (m s a : Nat) : ent (noneLad m).rows s a = none := by
  unfold ent noneLad
  cases s with
  | zero =>
    by_cases ha : a < m
    · simp [ha]
    · simp [List.getElem?_eq_none (l := List.replicate m (none : Ent)) (i := a) (by simpa using ha)]
  | succ s => simp
theorem none_least (m : Nat) : IsLeast m (noneLad m) := ⟨⟨by simp [noneLad], rfl, fun r hr => by
    simp only [noneLad, List.mem_singleton] at hr
    rw [hr, List.length_replicate], fun s a p t e => by rw [none_ent] at e; cases e⟩, .inl rfl⟩
theorem none_bnd (m : Nat) {B : Int} (h : 0 ≤ B) : Bnd B (noneLad m) := ⟨Int.le_refl _, h, fun r hr p t hm => by
    simp only [noneLad, List.mem_singleton] at hr
    rw [hr] at hm
    exact (nomatch (List.eq_of_mem_replicate hm)), fun c hc => by simp [noneLad] at hc⟩
theorem none_data (lt : List Str) : ladD lt (noneLad lt.length) = .tuple [letD lt, .int 0, .tuple [.tuple (List.replicate lt.length .none)], .tuple [.none]] := by
  unfold ladD rowsD tipsD noneLad
  simp only [List.map_cons, List.map_nil, rowD, List.map_replicate]
  rfl
theorem ref_dget {H : Hp} {K : PySem.W.Frag} {σ : L2.St} {td ty : TE} {a p : Addr} {l : List (Nat × V)} {s : Nat} (hr : Rd H a (.dK (kvN l))) (hd : Ref td σ H a) (hy : EvD K ty σ H (.int s)) (h : fnd l s = some (.ref p)) : Ref (tDGet td ty) σ H p := fun H1 s1 Q q =>
  hd H1 s1 _ fun H2 s2 => hy.run (s1.trans s2) fun y H3 s3 p3 => by
    cases p3
    exact ⟨a, .ref p, rfl, .inl ⟨kvN l, .inl (s : Int), rd_same ((s1.trans s2).trans s3) hr, rfl, by rw [valV_kvN, h]⟩, q H3 (s2.trans s3)⟩
theorem putN_numG {ks : List Nat} {k : Nat} (h : k ∉ ks) : putN (numG 0 ks) k (.int (ks.length : Nat)) = numG 0 (ks ++ [k]) := by
  unfold putN
  rw [numG_keys, if_neg h, numG_snoc, Nat.zero_add]
theorem vNats_snoc (ns : List Nat) (n : Nat) : vNats ns ++ [.int (n : Nat)] = vNats (ns ++ [n]) := by unfold vNats; rw [List.map_append]; rfl
section
variable {P : Program} {w : World} {K : PySem.W.Frag} {mg : Str → Option Value} {base : Heap}
def spLeastOf (K : PySem.W.Frag) : Sp := fun vs H Q _ => ∃ (x : V) (lt : List Str) (B : Int) (L : Lad), vs = [x] ∧ Dq K H x (ladD lt L) ∧ Wf lt.length L ∧ 1 ≤ lt.length ∧ lt.length ≤ 6 ∧ L.rows.length ≤ 63 ∧ Bnd B L ∧
  ∀ T v H', Same H H' → Dq K H' v (ladD lt T) → IsLeast lt.length T → (∀ w, T.cost w = L.cost w) → Bnd ((L.rows.length + 1 : Nat) * B) T → T.rows.length ≤ L.rows.length → Q v H'
theorem ok_least_of_ladder (T : Txt K mg) : FnOk P w K mg base CX0 3 T.A_least_of_ladder.f T.A_least_of_ladder.d ["ladder"] (spLeastOf K) := by
  refine T.A_least_of_ladder.F.ok sc_least_of_ladder (fun vs H Q E h => ?_) (fun cdv A outer s H vs Q E hr h => ?_)
  · obtain ⟨_, _, _, _, rfl, _⟩ := h; rfl
  · obtain ⟨x, lt, B, L, rfl, hx, wf, hm1, hm, hn, bd, q⟩ := h
    refine ⟨_, ((pss_cons (ps_set (i := 1) sc_least_of_ladder.nd rfl (.inl rfl) (pe_ix (kIxT (K := K)) (pv 0) pe_int (fun _ _ => rfl)))
  (pss_cons (ps_set (i := 2) sc_least_of_ladder.nd rfl (.inl rfl) (pe_call (ok_early_ladder T) (hr.mono (by decide)) (by rfl) T.A_early_ladder.g T.A_early_ladder.F.kp T.A_early_ladder.b .nil pass0 (pa_cons (pv 0) pa_nil)))
  (pss_cons (ps_if (pt_cmpR op_isN (pv 2) pe_non (nomark _)) (pss_one (ps_ret (pe_tup (pa_cons (pv 1) (pa_cons pe_int (pa_cons (pe_tup (pa_cons (pe_op (op_repU (K := K)) (pe_tup (pa_cons pe_non pa_nil)) (pe_callB (kLen (K := K)) (by rfl) T.n_len (by decide +kernel) (pa_cons (pv 1) pa_nil))) pa_nil)) (pa_cons (pe_tup (pa_cons pe_non pa_nil)) pa_nil))))))) pss_nil)
  (pss_cons (ps_asg (pv 2) (kgTup (K := K) rfl (pgs_cons (pg_name (i := 3) sc_least_of_ladder.nd rfl (.inl rfl)) (pgs_cons (pg_name (i := 4) sc_least_of_ladder.nd rfl (.inl rfl)) (pgs_cons (pg_name (i := 5) sc_least_of_ladder.nd rfl (.inr rfl)) pgs_nil)))))
  (pss_cons (ps_par (i := 6) (j := 7) (by rfl) sc_least_of_ladder.nd rfl rfl (by decide) rfl rfl (pa_cons (pe_call (ok_classes T) (hr.mono (by decide)) (by rfl) T.A_classes_of_rungs.g T.A_classes_of_rungs.F.kp T.A_classes_of_rungs.b .nil pass0 (pa_cons (pv 4) (pa_cons (pv 5) pa_nil))) (pa_cons (pe_lst (pa_cons pe_int pa_nil)) pa_nil)) (by rfl))
  (pss_cons (ps_par (i := 8) (j := 9) (by rfl) sc_least_of_ladder.nd rfl rfl (by decide) rfl rfl (pa_cons (pe_disp (pps_cons (pe_dget (hu_of hr) (pv 6) pe_int (fun _ _ => rfl)) pe_int pps_nil) rfl rfl (by simp) (by decide)) (pa_cons (pe_lst pa_nil) pa_nil)) (by rfl))
  (pss_cons (ps_while PassesOwn.never (pt_cmpR op_lt (pe_callB (kLen (K := K)) (by rfl) T.n_len (by decide +kernel) (pa_cons (pv 9) pa_nil)) (pe_callB (kLen (K := K)) (by rfl) T.n_len (by decide +kernel) (pa_cons (pv 7) pa_nil)) (nomark _))
    (pss_cons (ps_set (i := 10) sc_least_of_ladder.nd rfl (.inl rfl) (pe_lst pa_nil))
  (pss_cons (ps_for PassesOwn.never rfl (kiList (K := K) (pe_dget (hu_of hr) (pv 4) (pe_ix (kIxL (K := K)) (pv 7) (pe_callB (kLen (K := K)) (by rfl) T.n_len (by decide +kernel) (pa_cons (pv 9) pa_nil)) (fun _ _ => rfl)) (fun _ _ => rfl))) (pg_name (i := 11) sc_least_of_ladder.nd rfl (.inl rfl))
    (pss_cons (ps_if (PW.pt (pw_and (pt_cmpR op_notN (pv 11) pe_non (nomark _)) (pw_and1 (pt_cmp (pc_dnotin (hu_of hr) (pe_dget (hu_of hr) (pv 6) (pe_ix (kIxT (K := K)) (pv 11) pe_int (fun _ _ => rfl)) (fun _ _ => rfl)) (pv 8)))))) (pss_cons (ps_dput (hu_of hr) (pv 8) (pe_dget (hu_of hr) (pv 6) (pe_ix (kIxT (K := K)) (pv 11) pe_int (fun _ _ => rfl)) (fun _ _ => rfl)) (pe_callB (kLen (K := K)) (by rfl) T.n_len (by decide +kernel) (pa_cons (pv 7) pa_nil)) rfl)
  (pss_one (ps_expr (pe_bm PySem.F.plainAttrs_list PySem.F.slot_list_append PySem.F.type_list_append mt_append (pv 7) (pa_cons (pe_ix (kIxT (K := K)) (pv 11) pe_int (fun _ _ => rfl)) pa_nil))))) pss_nil)
  (pss_one (ps_expr (pe_bm PySem.F.plainAttrs_list PySem.F.slot_list_append PySem.F.type_list_append mt_append (pv 10) (pa_cons (pe_ifExp (pt_cmpR op_isN (pv 11) pe_non (nomark _)) pe_non (pe_tup (pa_cons (pe_ix (kIxT (K := K)) (pv 11) pe_int (fun _ _ => rfl)) (pa_cons (pe_dget (hu_of hr) (pv 8) (pe_dget (hu_of hr) (pv 6) (pe_ix (kIxT (K := K)) (pv 11) pe_int (fun _ _ => rfl)) (fun _ _ => rfl)) (fun _ _ => rfl)) pa_nil)))) pa_nil))))))
  (pss_one (ps_expr (pe_bm PySem.F.plainAttrs_list PySem.F.slot_list_append PySem.F.type_list_append mt_append (pv 9) (pa_cons (pe_callTy (kTup (K := K)) (by rfl) T.n_tuple (by decide +kernel) (pa_cons (pv 10) pa_nil)) pa_nil)))))))
  (pss_one (ps_ret (pe_tup (pa_cons (pv 1) (pa_cons (pv 3) (pa_cons (pe_callTy (kTup (K := K)) (by rfl) T.n_tuple (by decide +kernel) (pa_cons (pv 9) pa_nil)) (pa_cons (pe_callTy (kTup (K := K)) (by rfl) T.n_tuple (by decide +kernel) (pa_cons (pe_lc (own := [("state", 12)]) (g := gName 12) (tt := tYes) rfl sc_least_of_ladder.nd (kiList (K := K) (pv 7)) (blkOk_by (own := [("state", 12)]) (N := ["ladder", "letters", "early", "first", "told", "last", "marks", "order", "numbers", "rows", "row", "entry", "state"]) (sc := defScope s_least_of_ladder) (by decide +kernel)) (fun _ _ _ _ _ => (pg_name (i := 12) sc_least_of_ladder.nd rfl (.inl rfl))) (fun _ _ _ _ _ => pts_nil) (fun _ _ _ _ _ => (pe_dget (hu_of hr) (pv 5) (pv 12) (fun _ _ => rfl)))) pa_nil)) pa_nil))))))))))))))), ?_⟩
    have B0 : 0 ≤ B := Int.le_trans bd.f0 bd.f1
    refine evq_setD (evd_ixT (i := 0) (evd_v 0 rfl hx) evd_int rfl) fun u1 H1 s1 k1 => ?_
    refine evq_callset (K := K) (eva_cons (evd_v 0 rfl (hx.mono s1)) eva_nil) fun vs H2 s2 p2 => ?_
    obtain ⟨y0, rfl, d0⟩ := p2.single
    refine ⟨y0, lt, B, L, rfl, d0, wf, hm, by omega, bd, fun H3 s3 hnone => ?_, fun found r0 aE aT aL H3 s3 kn hR hr0 eE told last => ?_⟩
    · have sH := (s1.trans s2).trans s3
      have k1' := (k1.mono s2).mono s3
      refine evq_ifn (b := true) (evb_test (K := K) (evd_isN (evd_v 2 rfl .non))) (fun _ H4 s4 => ?_) fun z => nomatch z
      refine evs_retD (K := K) (d := ladD lt (noneLad lt.length)) ?_ fun v H5 s5 p5 => q (noneLad lt.length) v H5 (sH.trans (s4.trans s5)) p5 (none_least _) (fun wd => ?_) (none_bnd _ (Int.mul_nonneg (by omega) B0)) wf.pos
      · rw [none_data]
        have k1'' := k1'.mono s4
        refine evd_tup (eva_cons (evd_v 1 rfl k1'') (eva_cons evd_int (eva_cons (evd_tup (eva_cons (evd_rep1 (evd_tup (eva_cons evd_non eva_nil) (by simp)) (evd_is (evd_lenT (evd_v 1 rfl k1'')) (by rw [List.length_map])) hm1 (by omega)) eva_nil) (by simp)) (eva_cons (evd_tup (eva_cons evd_non eva_nil) (by simp)) eva_nil)))) (by simp)
      · rw [none_cost]
        unfold Lad.cost
        rw [hnone wd]; rfl
    · have sH := (s1.trans s2).trans s3
      have k1' := (k1.mono s2).mono s3
      let E' : ES := earlyE (ent L.rows) (fnd found)
      let F' : FS := earlyF (tip L.ends) (fnd found)
      have nE : ∀ s a, lt.length ≤ a → E' s a = none := fun s a ha => by
        have : ent L.rows s a = none := by
          by_cases c : s < L.rows.length
          · obtain ⟨r, e1, _⟩ : ∃ r, L.rows[s]? = some r ∧ r.length = lt.length := ⟨rowOf L s, rowOf_get c, wf.row _ (rowOf_mem c)⟩
            unfold ent
            rw [e1]
            simp only [Option.getD_some]
            rw [List.getElem?_eq_none (by rw [wf.row _ (List.mem_of_getElem? e1)]; exact ha)]; rfl
          · exact (out_none wf (by omega)).1 a
        show earlyE _ _ s a = none
        unfold earlyE
        rw [this]
      have rowEq : ∀ s, s ∈ found.map (·.1) → erow L (fnd found) s = rowE E' lt.length s := fun s hs => by
        have c := kn.lt s hs
        unfold erow rowE
        refine List.ext_getElem? fun a => ?_
        rw [List.getElem?_map, List.getElem?_map]
        by_cases ha : a < lt.length
        · obtain ⟨r, e1, e2, e3⟩ := rows_ent wf c ha
          have : r = rowOf L s := Option.some.inj (e1.symm.trans (rowOf_get c))
          rw [← this, e2, List.getElem?_range ha]
          show some _ = some (earlyE _ _ s a)
          rw [earlyE_ent]
        · rw [List.getElem?_eq_none (by rw [wf.row _ (rowOf_mem c)]; omega), List.getElem?_eq_none (by simp; omega)]; rfl
      have early : Early E' F' (· ∈ found.map (·.1)) := by
        have z := early_of hR
        have hS : ∀ s, s ∈ found.map (·.1) ↔ ∃ r, fnd found s = some r := fun s => by
          rw [← fnd_isSome]
          cases fnd found s <;> simp
        exact ⟨fun s hs => z.rest s ((hS s).mp hs), fun s a p t hs e => (hS t).mpr (z.inn s a p t ((hS s).mp hs) e)⟩
      have in0 : (0 : Nat) ∈ found.map (·.1) := by rw [← fnd_isSome, hr0]; rfl
      have ln := length_keys_le kn.nd kn.lt
      have kl : (found.map (·.1)).length ≤ 63 := by rw [List.length_map]; omega
      have told' : ToldAt K H3 aT (found.map (·.1)) (rowE E' lt.length) := by
        obtain ⟨l, e1, e2, e3⟩ := told
        refine ⟨l, e1, e2, fun p hp => ?_⟩
        obtain ⟨pr, xr, f1, f2, f3⟩ := e3 p hp
        exact ⟨pr, xr, f1, f2, by rw [← rowEq p.1 (by rw [← e2]; exact List.mem_map.mpr ⟨p, hp, rfl⟩)]; exact f3⟩
      refine ⟨.ref aE, rfl, rfl, false, rfl, iteF ?_⟩
      refine ⟨.ref aE, rfl, aE, [.int (L.first + r0), .ref aT, .ref aL], rfl, .inl (.inl eE), rfl, .int (L.first + r0), _, rfl, .ref aT, _, rfl, .ref aL, [], rfl, rfl, ?_⟩
      refine ⟨.ref aT, rfl, .ref aL, rfl, aT, aL, found.map (·.1), E', F', lt.length, rfl, told', last, kn.nd, kl, (fun z => by rw [z] at in0; simp at in0), by omega, early, nE, fun aM M sts H4 pm s4 eM stb co => ?_⟩
      refine ⟨by decide, fun aO haO => ?_⟩
      refine ⟨_, _, rfl, ?_⟩
      have s5 := same_new (o := .lst [.int 0]) haO
      have eO : (upd H4 aO (.lst [.int 0])) aO = some (.lst [.int 0]) := upd_same
      revert s5 eO
      generalize upd H4 aO (.lst [.int 0]) = H5
      intro s5 eO
      have ist : (0 : Nat) ∈ sts := pm.mem_iff.mpr in0
      have hmk : ∀ {H'}, Same H4 H' → Rd H' aM (.dK (kvN (markL sts M))) := fun s => .inl (s _ _ eM)
      intro aN haN
      have aON : aO ≠ aN := fun z => by rw [← z, eO] at haN; cases haN
      refine ⟨.ref aM, rfl, aM, .int (M 0 : Nat), rfl, .inl ⟨kvN (markL sts M), .inl ((0 : Nat) : Int), hmk (s5.trans (same_new haN)), rfl, by rw [valV_kvN, markL_fnd ist]⟩, upd_same, [(.inl (M 0 : Nat), .int 0)], rfl, by simp, ?_⟩
      refine ⟨by decide, fun aR haR => ?_⟩
      refine ⟨_, _, rfl, ?_⟩
      have haN4 : H4 aN = none := s5.free haN
      have eN : (upd (upd (upd H5 aN (.dK [])) aN (.dK (mergeK [] [(.inl (M 0 : Nat), .int 0)]))) aR (.lst [])) aN = some (.dK (kvN (numG 0 [M 0]))) := by
        have ne : aN ≠ aR := fun z => by rw [← z, upd_same] at haR; cases haR
        rw [upd_ne ne, upd_same]; rfl
      have haR5 : H5 aR = none := by
        have ne : aN ≠ aR := fun z => by rw [← z, upd_same] at haR; cases haR
        rw [upd_ne (Ne.symm ne), upd_ne (Ne.symm ne)] at haR
        exact haR
      have aOR : aO ≠ aR := fun z => by rw [← z, eO] at haR5; cases haR5
      have aNR : aN ≠ aR := fun z => by rw [← z, upd_same] at haR; cases haR
      have haR4 : H4 aR = none := s5.free haR5
      have s8 : Same H5 (upd (upd (upd H5 aN (.dK [])) aN (.dK (mergeK [] [(.inl (M 0 : Nat), .int 0)]))) aR (.lst [])) := same_mut (same_mut (same_new haN) haN) haR5
      have eR : (upd (upd (upd H5 aN (.dK [])) aN (.dK (mergeK [] [(.inl (M 0 : Nat), .int 0)]))) aR (.lst [])) aR = some (.lst []) := upd_same
      revert s8 eR eN
      generalize upd (upd (upd H5 aN (.dK [])) aN (.dK (mergeK [] [(.inl (M 0 : Nat), .int 0)]))) aR (.lst []) = H8
      intro eN s8 eR
      clear haR haN
      obtain ⟨bE, bF, bR⟩ := early_bnd (rowsOf wf bd) kn hR (fun s hs => out_none wf hs)
      have klen : (found.map (·.1)).length ≤ L.rows.length := by rw [List.length_map]; exact ln
      have getL : ∀ s, s ∈ found.map (·.1) → ∃ l, H3 aL = some (.dK (kvN l)) ∧ fnd l s = some (tipV (F' s)) := fun s hs => by
        obtain ⟨l, e1, e2, e3⟩ := last
        refine ⟨l, e1, ?_⟩
        cases k : fnd l s with
        | none => exact absurd (by rw [e2]; exact hs) (fnd_none.mp k)
        | some v => exact congrArg some (e3 _ (fnd_mem k))
      have getT : ∀ s, s ∈ found.map (·.1) → ∃ l pr xr, H3 aT = some (.dK (kvN l)) ∧ fnd l s = some (.ref pr) ∧ H3 pr = some (.lst xr) ∧ DqAll K H3 xr ((rowE E' lt.length s).map entD) := fun s hs => by
        obtain ⟨l, e1, e2, e3⟩ := told'
        cases k : fnd l s with
        | none => exact absurd (by rw [e2]; exact hs) (fnd_none.mp k)
        | some v =>
          obtain ⟨pr, xr, f1, f2, f3⟩ := e3 _ (fnd_mem k)
          have f1 : v = .ref pr := f1
          subst f1
          exact ⟨l, pr, xr, e1, k, f2, f3⟩
      have ordLe : ∀ {order rows}, Bfs E' M (· ∈ found.map (·.1)) lt.length order rows → order.length ≤ (found.map (·.1)).length := fun {order rows} b => by
        have : order.Nodup := (List.Pairwise.of_map M (fun a b h e => h (by rw [e])) b.nd)
        exact nodup_sub' _ _ this b.inn
      refine ⟨fun k σ' H' => ∃ (order : List Nat) (rows : Rows) (accR : List V) (x10 x11 : Option V), σ' = [some x, some u1, some (.ref aE), some (.int (L.first + r0)), some (.ref aT), some (.ref aL), some (.ref aM), some (.ref aO), some (.ref aN), some (.ref aR), x10, x11, none] ∧
        Same H4 H' ∧ H' aO = some (.lst (vNats order)) ∧ H' aN = some (.dK (kvN (numG 0 (order.map M)))) ∧ H' aR = some (.lst accR) ∧ DqAll K H' accR (rows.map rowD) ∧ Bfs E' M (· ∈ found.map (·.1)) lt.length order rows ∧ k = (found.map (·.1)).length - rows.length,
        ⟨_, [0], [], [], none, none, rfl, s5.trans s8, s8 _ _ eO, eN, eR, .nil, .start in0, rfl⟩, ?_⟩
      rintro k σ' H' ⟨order, rows, accR, x10, x11, rfl, s9, gO, gN, gR, dR, bfs, ek⟩
      have lR := dR.length
      rw [List.length_map] at lR
      have lO : (vNats order).length = order.length := by unfold vNats; rw [List.length_map]
      have ole := ordLe bfs
      have evLen : ∀ H'', Same H' H'' → EvD K (tCB (rLenS K) (tCons (tVar 9) tNil)) [some x, some u1, some (.ref aE), some (.int (L.first + r0)), some (.ref aT), some (.ref aL), some (.ref aM), some (.ref aO), some (.ref aN), some (.ref aR), x10, x11, none] H'' (.int (rows.length : Nat)) := fun H'' s =>
        evd_is (evd_lenLs (.inl (.inl (s _ _ gR))) (evr_v 9 rfl)) (by rw [lR])
      refine (evb_test (K := K) (evd_lt (g := fun i j => decide (i < j)) (evLen H' (Same.refl _)) (evd_is (evd_lenLs (.inl (.inl gO)) (evr_v 7 rfl)) (by rw [lO])))) H' (Same.refl _) _ fun H9 s10 => ?_
      by_cases lt' : (rows.length : Int) < (order.length : Int)
      · rw [decide_eq_true lt']
        refine iteT ⟨_, fun σ'' H'' hN => hN, ?_⟩
        have lt2 : rows.length < order.length := by omega
        obtain ⟨sN, hsN⟩ : ∃ sN, order[rows.length]? = some sN := ⟨_, List.getElem?_eq_getElem lt2⟩
        have hsk := bfs.inn sN (List.mem_of_getElem? hsN)
        obtain ⟨lT, pr, xr, g1, g2, g3, g4⟩ := getT sN hsk
        refine evq_setL (K := K) (ds := []) (evl_lst eva_nil (by simp)) fun aW xs0 H10 haW s11 eW dW => ?_
        cases dW
        have s9' : Same H4 H9 := s9.trans s10
        have s49 := s9'.trans s11
        have haW4 : H4 aW = none := s9'.free haW
        have gO9 := s10 _ _ gO
        have gN9 := s10 _ _ gN
        have gR9 := s10 _ _ gR
        have aOW : aO ≠ aW := fun z => by rw [← z, gO9] at haW; cases haW
        have aNW : aN ≠ aW := fun z => by rw [← z, gN9] at haW; cases haW
        have aRW : aR ≠ aW := fun z => by rw [← z, gR9] at haW; cases haW
        have es_len : ((rowE E' lt.length sN).map entD).length = lt.length := by simp [rowE]
        have seqT : ∀ {H'}, Same H4 H' → SqL K H' pr xr ∧ DqAll K H' xr ((rowE E' lt.length sN).map entD) := fun s => ⟨.inl (.inl ((s4.trans s) _ _ g3)), g4.mono (s4.trans s)⟩
        have refE : Ref (tDGet (tVar 4) (tOp (rIxL K) (tVar 7) (tCB (rLenS K) (tCons (tVar 9) tNil)))) [some x, some u1, some (.ref aE), some (.int (L.first + r0)), some (.ref aT), some (.ref aL), some (.ref aM), some (.ref aO), some (.ref aN), some (.ref aR), some (.ref aW), x11, none] H10 pr :=
          ref_dget (K := K) (.inl ((s4.trans s49) _ _ g1)) (evr_v 4 rfl) (evd_ixLs (i := rows.length) (.inl (.inl (s11 _ _ gO9))) (vNats_dq order) (evr_v 7 rfl) (evd_is (evd_lenLs (.inl (.inl (s11 _ _ gR9))) (evr_v 9 rfl)) (by rw [lR])) (by show (order.map fun n => PyData.int (n : Nat))[rows.length]? = _; rw [List.getElem?_map, hsN]; rfl)) g2
        refine evq_for (K := K) (evi_listF (seqT s49).1 (seqT s49).2 refE) (fun _ i σ' H' => ∃ (st : List Nat × List Ent) (x11 : Option V) (accW : List V), σ' = [some x, some u1, some (.ref aE), some (.int (L.first + r0)), some (.ref aT), some (.ref aL), some (.ref aM), some (.ref aO), some (.ref aN), some (.ref aR), some (.ref aW), x11, none] ∧
          Same H4 H' ∧ H' aO = some (.lst (vNats st.1)) ∧ H' aN = some (.dK (kvN (numG 0 (st.1.map M)))) ∧ H' aR = some (.lst accR) ∧ DqAll K H' accR (rows.map rowD) ∧ H' aW = some (.lst accW) ∧ DqAll K H' accW (st.2.map entD) ∧ RowInv M (· ∈ found.map (·.1)) order ((rowE E' lt.length sN).take i) st)
          (fun _ i σ' H' _ _ ⟨_, _, _, _, s, _⟩ => seqT s) (fun Hb sb => ⟨(order, []), x11, [], rfl, s49.trans sb, (s11.trans sb) _ _ gO9, (s11.trans sb) _ _ gN9, (s11.trans sb) _ _ gR9, dR.mono (s10.trans (s11.trans sb)), sb _ _ eW, .nil, .start bfs.inn bfs.nd⟩)
          (fun Hb i d σ' H' xe H'' sb hd ⟨st, x11, accW, eσ, t1, t2, t3, t4, t5, t6, t7, ri⟩ s12 dx => ?_) fun Hb σ' H' sb ⟨st, x11, accW, eσ, t1, t2, t3, t4, t5, t6, t7, ri⟩ => ?_
        · subst eσ
          rw [List.getElem?_map] at hd
          obtain ⟨e, he, rfl⟩ : ∃ e, (rowE E' lt.length sN)[i]? = some e ∧ d = entD e := by
            cases k : (rowE E' lt.length sN)[i]? with
            | none => rw [k] at hd; cases hd
            | some e => rw [k] at hd; exact ⟨e, rfl, (Option.some.inj hd).symm⟩
          have hin : ∀ p t, e = some (p, t) → t ∈ found.map (·.1) := fun p t h => by
            subst h
            have hm := List.mem_of_getElem? he
            obtain ⟨a, _, ea⟩ := List.mem_map.mp hm
            exact early.inn sN a p t hsk ea
          have ri2 : RowInv M (· ∈ found.map (·.1)) order ((rowE E' lt.length sN).take (i + 1)) (bfsStep M st e) := by
            rw [List.take_add_one, he]
            exact ri.step e hin
          have stl : st.1.length ≤ 63 := by
            have : st.1.Nodup := (List.Pairwise.of_map M (fun a b h e => h (by rw [e])) ri.nd)
            have := nodup_sub' _ _ this ri.inn
            omega
          have wl : accW.length ≤ 100 := by
            have z1 : (rowE E' lt.length sN).length = lt.length := by simp [rowE]
            have z2 := List.length_take (i := i) (l := rowE E' lt.length sN)
            rw [t7.length, List.length_map, ri.row, List.length_map]
            omega
          -- the state behind the first statement
          have final : ∀ (o : List Nat) (H13 : Hp), o = grow M st.1 e → Same H4 H13 → H13 aO = some (.lst (vNats o)) → H13 aN = some (.dK (kvN (numG 0 (o.map M)))) → H13 aR = some (.lst accR) → DqAll K H13 accR (rows.map rowD) → H13 aW = some (.lst accW) → DqAll K H13 accW (st.2.map entD) → Dq K H13 xe (entD e) →
              EvD K (tIf (tTest (tOp rIsN (tVar 11) (tC .non))) (tC .non) (tTup (tCons (tOp (rIxT K) (tVar 11) (tC (.int 0))) (tCons (tDGet (tVar 8) (tDGet (tVar 6) (tOp (rIxT K) (tVar 11) (tC (.int 1))))) tNil)))) [some x, some u1, some (.ref aE), some (.int (L.first + r0)), some (.ref aT), some (.ref aL), some (.ref aM), some (.ref aO), some (.ref aN), some (.ref aR), some (.ref aW), some xe, none] H13 (entD (numE M o e)) ∧
              ∀ v H14, Same H13 H14 → Dq K H14 v (entD (numE M o e)) → ∃ (st : List Nat × List Ent) (x11 : Option V) (accW' : List V), [some x, some u1, some (.ref aE), some (.int (L.first + r0)), some (.ref aT), some (.ref aL), some (.ref aM), some (.ref aO), some (.ref aN), some (.ref aR), some (.ref aW), some xe, none] = [some x, some u1, some (.ref aE), some (.int (L.first + r0)), some (.ref aT), some (.ref aL), some (.ref aM), some (.ref aO), some (.ref aN), some (.ref aR), some (.ref aW), x11, none] ∧
                Same H4 (upd H14 aW (.lst (accW ++ [v]))) ∧ (upd H14 aW (.lst (accW ++ [v]))) aO = some (.lst (vNats st.1)) ∧ (upd H14 aW (.lst (accW ++ [v]))) aN = some (.dK (kvN (numG 0 (st.1.map M)))) ∧ (upd H14 aW (.lst (accW ++ [v]))) aR = some (.lst accR) ∧ DqAll K (upd H14 aW (.lst (accW ++ [v]))) accR (rows.map rowD) ∧ (upd H14 aW (.lst (accW ++ [v]))) aW = some (.lst accW') ∧
                DqAll K (upd H14 aW (.lst (accW ++ [v]))) accW' (st.2.map entD) ∧ RowInv M (· ∈ found.map (·.1)) order ((rowE E' lt.length sN).take (i + 1)) st := by
            intro o H13 ho f1 f2 f3 f4 f5 f6 f7 dxe
            refine ⟨?_, fun v H14 s14 p14 => ?_⟩
            · have v11 : EvD K (tVar 11) [some x, some u1, some (.ref aE), some (.int (L.first + r0)), some (.ref aT), some (.ref aL), some (.ref aM), some (.ref aO), some (.ref aN), some (.ref aR), some (.ref aW), some xe, none] H13 (entD e) := evd_v 11 rfl dxe
              cases e with
              | none => exact evp_if (b := true) (evb_test (evd_isN v11)) (fun _ => evd_non) fun z => nomatch z
              | some pt =>
                obtain ⟨p, t⟩ := pt
                have ht := pm.mem_iff.mpr (hin p t rfl)
                have mem : M t ∈ o.map M := by
                  rw [ho]
                  show M t ∈ (if M t ∈ st.1.map M then st.1 else st.1 ++ [t]).map M
                  split
                  · assumption
                  · rw [List.map_append]; simp
                have nf := numG_fnd (o.map M) 0 mem
                rw [Nat.zero_add] at nf
                refine evp_if (b := false) (evb_test (evd_isN v11)) (fun z => nomatch z) fun _ => ?_
                exact evd_tup (eva_cons (evd_ixT (i := 0) v11 evd_int rfl) (eva_cons (evd_dget (.inl f3) (evr_v 8 rfl) (evd_dget (hmk f1) (evr_v 6 rfl) (evd_ixT (i := 1) v11 evd_int rfl) (markL_fnd ht) (.int _)) nf (.int _)) eva_nil)) (by simp)
            · have f6' := s14 _ _ f6
              refine ⟨(o, st.2 ++ [numE M o e]), some xe, accW ++ [v], rfl, same_mut (f1.trans s14) haW4, ?_, ?_, ?_, (f5.mono s14).kp (.updL f6'), upd_same, ?_, ?_⟩
              · rw [upd_ne aOW]; exact s14 _ _ f2
              · rw [upd_ne aNW]; exact s14 _ _ f3
              · rw [upd_ne aRW]; exact s14 _ _ f4
              · rw [List.map_append]
                exact ((f7.mono s14).kp (.updL f6')).snoc (p14.kp (.updL f6'))
              · have : (o, st.2 ++ [numE M o e]) = bfsStep M st e := by rw [ho]; rfl
                rw [this]; exact ri2
          have t1' := t1.trans s12
          have t2' := s12 _ _ t2
          have t3' := s12 _ _ t3
          have t4' := s12 _ _ t4
          have t5' := t5.mono s12
          have t6' := s12 _ _ t6
          have t7' := t7.mono s12
          have v11 : EvD K (tVar 11) [some x, some u1, some (.ref aE), some (.int (L.first + r0)), some (.ref aT), some (.ref aL), some (.ref aM), some (.ref aO), some (.ref aN), some (.ref aR), some (.ref aW), some xe, none] H'' (entD e) := evd_v 11 rfl dx
          cases e with
          | none =>
            refine evq_ifn (b := false) (evb_is (evb_and (a := false) (b := true) (evb_test (evd_notN v11)) fun z => nomatch z) rfl) (fun z => nomatch z) fun _ H13 s13 => ?_
            have z := final st.1 H13 rfl (t1'.trans s13) (s13 _ _ t2') (s13 _ _ t3') (s13 _ _ t4') (t5'.mono s13) (s13 _ _ t6') (t7'.mono s13) (dx.mono s13)
            exact evs_append (K := K) (s13 _ _ t6') (by omega) (evr_v 10 rfl) z.1 fun v H14 s14 p14 => z.2 v H14 s14 p14
          | some pt =>
            obtain ⟨p, t⟩ := pt
            have ht := pm.mem_iff.mpr (hin p t rfl)
            have evM : ∀ H13, Same H'' H13 → EvD K (tDGet (tVar 6) (tOp (rIxT K) (tVar 11) (tC (.int 1)))) [some x, some u1, some (.ref aE), some (.int (L.first + r0)), some (.ref aT), some (.ref aL), some (.ref aM), some (.ref aO), some (.ref aN), some (.ref aR), some (.ref aW), some xe, none] H13 (.int (M t : Nat)) := fun H13 s13 =>
              evd_dget (hmk (t1'.trans s13)) (evr_v 6 rfl) (evd_ixT (i := 1) (v11.mono s13) evd_int rfl) (markL_fnd ht) (.int _)
            by_cases c : M t ∈ st.1.map M
            · have some1 : (fnd (numG 0 (st.1.map M)) (M t)).isSome = true := by rw [numG_fnd _ _ c]; rfl
              refine evq_ifn (b := false) (evb_is (evb_and (a := true) (b := false) (evb_test (evd_notN v11)) fun _ => evb_is (evb_B (evd_dnotin (.inl t3') (evr_v 8 rfl) (evM H'' (Same.refl _)))) (by rw [some1]; rfl)) rfl) (fun z => nomatch z) fun _ H13 s13 => ?_
              have z := final st.1 H13 (by show _ = (if M t ∈ st.1.map M then st.1 else st.1 ++ [t]); rw [if_pos c]) (t1'.trans s13) (s13 _ _ t2') (s13 _ _ t3') (s13 _ _ t4') (t5'.mono s13) (s13 _ _ t6') (t7'.mono s13) (dx.mono s13)
              exact evs_append (K := K) (s13 _ _ t6') (by omega) (evr_v 10 rfl) z.1 fun v H14 s14 p14 => z.2 v H14 s14 p14
            · have none1 : fnd (numG 0 (st.1.map M)) (M t) = none := fnd_none.mpr (by rw [numG_keys]; exact c)
              refine evq_ifn (b := true) (evb_is (evb_and (a := true) (b := true) (evb_test (evd_notN v11)) fun _ => evb_is (evb_B (evd_dnotin (.inl t3') (evr_v 8 rfl) (evM H'' (Same.refl _)))) (by rw [none1]; rfl)) rfl) (fun _ H13 s13 => ?_) fun z => nomatch z
              refine evq_dput (K := K) (s13 _ _ t3') (by have := congrArg List.length (numG_keys (st.1.map M) 0); rw [List.length_map, List.length_map] at this; omega) (evd_is (evd_lenLs (.inl (.inl (s13 _ _ t2'))) (evr_v 7 rfl)) (by show PyData.int ((vNats st.1).length : Nat) = .int (((st.1.map M).length : Nat) : Int); unfold vNats; rw [List.length_map, List.length_map])) (evr_v 8 rfl) (evM H13 s13) fun v H14 s14 p14 => ?_
              cases p14
              rw [putN_numG c]
              have s1314 := s13.trans s14
              have e3 := s1314 _ _ t3'
              have kp := Kp.updK (o := .dK (kvN (numG 0 (st.1.map M ++ [M t])))) e3
              have dxe := (dx.mono s1314).kp kp
              have aOm : (upd H14 aN (.dK (kvN (numG 0 (st.1.map M ++ [M t]))))) aO = some (.lst (vNats st.1)) := by rw [upd_ne aON]; exact s1314 _ _ t2'
              have e1 : EvD K (tOp (rIxT K) (tVar 11) (tC (.int 1))) [some x, some u1, some (.ref aE), some (.int (L.first + r0)), some (.ref aT), some (.ref aL), some (.ref aM), some (.ref aO), some (.ref aN), some (.ref aR), some (.ref aW), some xe, none] (upd H14 aN (.dK (kvN (numG 0 (st.1.map M ++ [M t]))))) (.int (t : Nat)) :=
                evd_ixT (i := 1) (evd_v 11 rfl dxe) evd_int rfl
              refine evs_append (K := K) aOm (by unfold vNats; rw [List.length_map]; omega) (evr_v 7 rfl) e1 fun v H15 s15 p15 => ?_
              cases p15
              rw [vNats_snoc]
              have aO15 := s15 _ _ aOm
              have kp2 := Kp.updL (ys := vNats (st.1 ++ [t])) aO15
              have sAll : Same H4 (upd H15 aO (.lst (vNats (st.1 ++ [t])))) := same_mut ((same_mut (t1'.trans s1314) haN4).trans s15) haO
              have z := final (st.1 ++ [t]) (upd H15 aO (.lst (vNats (st.1 ++ [t])))) (by show _ = (if M t ∈ st.1.map M then st.1 else st.1 ++ [t]); rw [if_neg c]) sAll upd_same
                (by rw [upd_ne (Ne.symm aON), List.map_append]; exact s15 _ _ upd_same) (by rw [upd_ne (Ne.symm aOR)]; exact s15 _ _ (by rw [upd_ne (Ne.symm aNR)]; exact s1314 _ _ t4')) ((((t5'.mono s1314).kp kp).mono s15).kp kp2) (by rw [upd_ne (Ne.symm aOW)]; exact s15 _ _ (by rw [upd_ne (Ne.symm aNW)]; exact s1314 _ _ t6')) ((((t7'.mono s1314).kp kp).mono s15).kp kp2) ((dxe.mono s15).kp kp2)
              refine evs_append (K := K) (by rw [upd_ne (Ne.symm aOW)]; exact s15 _ _ (by rw [upd_ne (Ne.symm aNW)]; exact s1314 _ _ t6')) (by omega) (evr_v 10 rfl) z.1 fun v H16 s16 p16 => z.2 v H16 s16 p16
        · subst eσ
          rw [es_len] at ri
          have rl : (rowE E' lt.length sN).take lt.length = (List.range lt.length).map (E' sN) := by
            rw [List.take_of_length_le (by simp [rowE])]; rfl
          rw [rl] at ri
          have b2 := bfs.step hsN ri
          refine evs_append (K := K) t4 (by omega) (evr_v 9 rfl) (evd_tupleLs (.inl (.inl t6)) t7 (evr_v 10 rfl)) fun v H13 s13 p13 => ?_
          have g4 := s13 _ _ t4
          refine ⟨(found.map (·.1)).length - (rows ++ [st.2]).length, ?_, st.1, rows ++ [st.2], accR ++ [v], _, _, rfl, same_mut (t1.trans s13) haR4, ?_, ?_, upd_same, ?_, b2, rfl⟩
          · rw [ek, List.length_append, List.length_singleton]
            omega
          · rw [upd_ne aOR]; exact s13 _ _ t2
          · rw [upd_ne aNR]; exact s13 _ _ t3
          · rw [List.map_append]
            exact ((t5.mono s13).kp (.updL g4)).snoc (p13.kp (.updL g4))
      · rw [decide_eq_false lt']
        refine iteF ?_
        have hlen : rows.length = order.length := by have := bfs.le; omega
        obtain ⟨il, _, cost⟩ := bfs.end early stb co nE hlen (L.first + r0)
        have s9' := s9.trans s10
        have comp : EvL K (tLc (iList K (tVar 7)) (gName 12) tYes (tDGet (tVar 5) (tVar 12)) [12]) [some x, some u1, some (.ref aE), some (.int (L.first + r0)), some (.ref aT), some (.ref aL), some (.ref aM), some (.ref aO), some (.ref aN), some (.ref aR), x10, x11, none] H9 ((order.map F').map tipD) := by
          refine EvL.is (evl_map (i := 12) (evi_listS (.inl (.inl (s10 _ _ gO))) (vNats_dq order) (evr_v 7 rfl)) (by show (order.map fun n => PyData.int (n : Nat)).length ≤ _; rw [List.length_map]; omega) (fun d => match d with | .int s => tipD (F' s.toNat) | _ => .none) fun d xe H11 hd s11 dxe => ?_) ?_
          · obtain ⟨s, hs, rfl⟩ := List.mem_map.mp hd
            cases dxe
            obtain ⟨l, e1, e2⟩ := getL s (bfs.inn s hs)
            show EvD K _ _ H11 (tipD (F' ((s : Nat) : Int).toNat))
            rw [Int.toNat_natCast]
            exact evd_dget (.inl ((s4.trans (s9'.trans s11)) _ _ e1)) (evr_v 5 rfl) (evd_v 12 rfl (.int _)) e2 (tipV_dq _)
          · show (order.map fun n => PyData.int (n : Nat)).map _ = _
            rw [List.map_map, List.map_map]
            refine List.map_congr_left fun s _ => ?_
            show tipD (F' ((s : Nat) : Int).toNat) = tipD (F' s)
            rw [Int.toNat_natCast]
        refine evs_retD (K := K) (d := ladD lt ⟨L.first + r0, rows, order.map F'⟩) (evd_tup (eva_cons (evd_v 1 rfl (k1'.mono (s4.trans s9'))) (eva_cons (evd_v 3 rfl (.int _)) (eva_cons (evd_tupleLs (.inl (.inl (s10 _ _ gR))) (dR.mono s10) (evr_v 9 rfl)) (eva_cons (evd_tupleL comp) eva_nil)))) (by simp)) fun v H11 s11 p11 => ?_
        refine q _ v H11 (sH.trans (s4.trans (s9'.trans s11))) p11 il (fun wd => ?_) ⟨?_, ?_, fun r hr p t hm' => ?_, fun c hc => ?_⟩ ?_
        · rw [cost]
          show (run (earlyE (ent L.rows) (fnd found)) (earlyF (tip L.ends) (fnd found)) 0 wd).map _ = _
          rw [run_early hR, hr0]
          unfold Lad.cost
          rw [Option.map_map]
          congr 1
          funext c
          show L.first + r0 + (c - r0) = L.first + c
          omega
        · have := bd.f0
          have := bR 0 r0 hr0
          show 0 ≤ L.first + r0
          omega
        · have := bd.f1
          have := bR 0 r0 hr0
          show L.first + r0 ≤ _
          rw [Int.natCast_add, Int.add_mul]
          simp
          omega
        · obtain ⟨j, hj⟩ := List.mem_iff_getElem?.mp hr
          have hj' : rows[j]? = some r := hj
          have jl := (List.getElem?_eq_some_iff.mp hj').1
          have jo : order[j]? = some order[j] := List.getElem?_eq_getElem (by omega)
          rw [bfs.row j _ jl jo] at hj'
          cases hj'
          obtain ⟨a, _, ea⟩ := List.mem_map.mp hm'
          cases k2 : E' order[j] a with
          | none => rw [k2] at ea; cases ea
          | some y =>
            obtain ⟨p0, t0⟩ := y
            rw [k2] at ea
            have : p0 = p := congrArg Prod.fst (Option.some.inj ea)
            rw [← this]
            exact bE _ _ _ _ k2
        · obtain ⟨s, _, es⟩ := List.mem_map.mp hc
          exact bF s c es
        · show rows.length ≤ _
          omega
end
end K96

set_option maxRecDepth 100000
set_option maxHeartbeats 2000000
/-! least_ladder, is_least_ladder, same_ladders -/
namespace K96
open PySem PySem.Spec PyProof.Rows L2 KD Ladm
theorem good_ent (e : Ent) : Good 1 (entD e) := by
  cases e with
  | none => exact good_none.mono (by decide)
  | some x =>
    obtain ⟨p, t⟩ := x
    exact Good.tup fun d hd => by
      simp only [List.mem_cons, List.not_mem_nil, or_false] at hd
      rcases hd with rfl | rfl <;> exact good_int _
theorem good_row (r : List Ent) : Good 2 (rowD r) := Good.tup fun d hd => by
  obtain ⟨e, _, rfl⟩ := List.mem_map.mp hd
  exact good_ent e
theorem good_tip (c : Option Int) : Good 0 (tipD c) := by
  cases c with
  | none => exact good_none
  | some c => exact good_int c
theorem good_lad {lt : List Str} (ok : LetOk lt) (L : Lad) : Good 4 (ladD lt L) := Good.tup fun d hd => by
  simp only [List.mem_cons, List.not_mem_nil, or_false] at hd
  rcases hd with rfl | rfl | rfl | rfl
  · exact (good_let ok).mono (by decide)
  · exact (good_int _).mono (by decide)
  · exact Good.tup fun d hd => by
      obtain ⟨r, _, rfl⟩ := List.mem_map.mp hd
      exact good_row r
  · exact (Good.tup (n := 0) fun d hd => by
      obtain ⟨r, _, rfl⟩ := List.mem_map.mp hd
      exact good_tip r).mono (by decide)
structure Fits (lt : List Str) (B : Int) (L : Lad) : Prop where
  v : Valid lt L
  n : L.rows.length ≤ 63
  b : Bnd B L
def Made (lt : List Str) (B : Int) (L T : Lad) : Prop := IsLeast lt.length T ∧ (∀ w, T.cost w = L.cost w) ∧ Bnd ((L.rows.length + 1 : Nat) * B) T ∧ T.rows.length ≤ L.rows.length
section
variable {K : PySem.W.Frag} {H : Hp} {σ : L2.St} {te ta tb : TE} {E : XK}
theorem evp_least {lt : List Str} {B : Int} {L : Lad} (h : EvD K te σ H (ladD lt L)) (f : Fits lt B L) : EvP K (tCall (spLeastOf K) [] E (tCons te tNil)) σ H (fun r => ∃ T, r = ladD lt T ∧ Made lt B L T) := fun H1 s Q q => h.run s fun v H2 s2 p2 =>
  ⟨v, lt, B, L, rfl, p2, f.v.wf, f.v.ok.pos, f.v.ok.few, f.n, f.b, fun T u H3 s3 p3 a b c d => q u H3 _ (s2.trans s3) p3 ⟨T, rfl, a, b, c, d⟩⟩
theorem evp_eqG {P P' : PyData → Prop} {n m : Nat} (ha : EvP K ta σ H P) (hb : EvP K tb σ H P') (g1 : ∀ d, P d → Good n d) (g2 : ∀ d, P' d → Good m d) (l1 : n ≤ 64) (l2 : m ≤ 64) :
    EvP K (tOp (rEqD K) ta tb) σ H (fun r => ∃ d e b, P d ∧ P' e ∧ r = .bool b ∧ (b = true ↔ d = e)) := fun H1 s Q q => ha H1 s _ fun x H2 d s2 p2 pd => hb H2 (s.trans s2) _ fun y H3 e s3 p3 pe =>
  ⟨d, e, dq_dp d _ (g1 d pd).flat (p2.mono s3), dq_dp e _ (g2 e pe).flat p3, (g1 d pd).shaped l1, (g2 e pe).shaped l2, q _ H3 _ (s2.trans s3) (.bl _) ⟨d, e, _, pd, pe, rfl, eqv_iff d e (g1 d pd).nob (g2 e pe).nob⟩⟩
theorem evp_neG {P P' : PyData → Prop} {n m : Nat} (ha : EvP K ta σ H P) (hb : EvP K tb σ H P') (g1 : ∀ d, P d → Good n d) (g2 : ∀ d, P' d → Good m d) (l1 : n ≤ 64) (l2 : m ≤ 64) :
    EvP K (tOp (rNeD K) ta tb) σ H (fun r => ∃ d e b, P d ∧ P' e ∧ r = .bool (!b) ∧ (b = true ↔ d = e)) := fun H1 s Q q => ha H1 s _ fun x H2 d s2 p2 pd => hb H2 (s.trans s2) _ fun y H3 e s3 p3 pe =>
  ⟨d, e, dq_dp d _ (g1 d pd).flat (p2.mono s3), dq_dp e _ (g2 e pe).flat p3, (g1 d pd).shaped l1, (g2 e pe).shaped l2, q _ H3 _ (s2.trans s3) (.bl _) ⟨d, e, _, pd, pe, rfl, eqv_iff d e (g1 d pd).nob (g2 e pe).nob⟩⟩
end
section
variable {P : Program} {w : World} {K : PySem.W.Frag} {mg : Str → Option Value} {base : Heap}
def spLeast (K : PySem.W.Frag) (C : Addr) : Sp := fun vs H Q E => ∃ (x : V) (d : PyData), vs = [x] ∧ Dq K H x d ∧
  ((∃ lt B L, d = ladD lt L ∧ Fits lt B L ∧ ∀ T v H', Same H H' → Dq K H' v (ladD lt T) → Made lt B L T → Q v H') ∨ (LadArg d ∧ isLadD d = false ∧ ∀ H', Same H H' → E (.ref C) none H'))
theorem ok_least_ladder (T : Txt K mg) : FnOk P w K mg base (L2.CX P w) 6 T.A_least_ladder.f T.A_least_ladder.d ["ladder"] (spLeast K T.X_BadLadder.C) := by
  refine T.A_least_ladder.F.okX sc_least_ladder (fun vs H Q E h => ?_) (fun cdv A outer s H vs Q E hr h => ?_)
  · obtain ⟨_, _, rfl, _⟩ := h; rfl
  · obtain ⟨x, d, rfl, hx, h⟩ := h
    refine ⟨_, ((pss_cons (ps_expr (pe_call (ok_need_ladder T) (hr.mono (by decide)) (by rfl) T.A_need_ladder.g T.A_need_ladder.F.kp T.A_need_ladder.b .nil (passes_call (takes_of rfl rfl rfl rfl) (fun _ _ _ _ h => h)) (pa_cons (pv 0) pa_nil)))
  (pss_one (ps_ret (pe_call (ok_least_of_ladder T) (hr.mono (by decide)) (by rfl) T.A_least_of_ladder.g T.A_least_of_ladder.F.kp T.A_least_of_ladder.b .nil pass0 (pa_cons (pv 0) pa_nil)))))), ?_⟩
    rcases h with ⟨lt, B, L, rfl, f, q⟩ | ⟨la, no, e⟩
    · refine evq_dropE (eva_cons (evd_v 0 rfl hx) eva_nil) ⟨_, rfl, ladArg_of f.v.ok⟩ (fun H1 r s1 p1 => ?_) fun C H1 s1 z => ?_
      · exact evs_ret (evp_least (evd_v 0 rfl (hx.mono s1)) f) fun v H2 r s2 p2 ⟨T, e, m⟩ => q T v H2 (s1.trans s2) (e ▸ p2) m
      · obtain ⟨_, d', e1, no⟩ := z
        cases e1
        rw [isLad_of f.v] at no
        cases no
    · refine evq_dropE (eva_cons (evd_v 0 rfl hx) eva_nil) ⟨_, rfl, la⟩ (fun H1 r s1 p1 => ?_) fun C H1 s1 z => ?_
      · obtain ⟨_, d', e1, yes⟩ := p1
        cases e1
        rw [no] at yes
        cases yes
      · obtain ⟨rfl, _⟩ := z
        exact e H1 s1
def spIsLeast (K : PySem.W.Frag) (C : Addr) : Sp := fun vs H Q E => ∃ (x : V) (d : PyData), vs = [x] ∧ Dq K H x d ∧
  ((∃ lt B L, d = ladD lt L ∧ Fits lt B L ∧ ∀ (b : Bool) H', Same H H' → (b = true ↔ IsLeast lt.length L) → Q (.bl b) H') ∨ (LadArg d ∧ isLadD d = false ∧ ∀ H', Same H H' → E (.ref C) none H'))
theorem ok_is_least_ladder (T : Txt K mg) : FnOk P w K mg base (L2.CX P w) 6 T.A_is_least_ladder.f T.A_is_least_ladder.d ["ladder"] (spIsLeast K T.X_BadLadder.C) := by
  refine T.A_is_least_ladder.F.okX sc_is_least_ladder (fun vs H Q E h => ?_) (fun cdv A outer s H vs Q E hr h => ?_)
  · obtain ⟨_, _, rfl, _⟩ := h; rfl
  · obtain ⟨x, d, rfl, hx, h⟩ := h
    refine ⟨_, ((pss_cons (ps_expr (pe_call (ok_need_ladder T) (hr.mono (by decide)) (by rfl) T.A_need_ladder.g T.A_need_ladder.F.kp T.A_need_ladder.b .nil (passes_call (takes_of rfl rfl rfl rfl) (fun _ _ _ _ h => h)) (pa_cons (pv 0) pa_nil)))
  (pss_one (ps_ret (pe_cmpR (kEqD (K := K) (hu64 hr)) (pe_call (ok_least_of_ladder T) (hr.mono (by decide)) (by rfl) T.A_least_of_ladder.g T.A_least_of_ladder.F.kp T.A_least_of_ladder.b .nil pass0 (pa_cons (pv 0) pa_nil)) (pv 0) (nomark _)))))), ?_⟩
    rcases h with ⟨lt, B, L, rfl, f, q⟩ | ⟨la, no, e⟩
    · refine evq_dropE (eva_cons (evd_v 0 rfl hx) eva_nil) ⟨_, rfl, ladArg_of f.v.ok⟩ (fun H1 r s1 p1 => ?_) fun C H1 s1 z => ?_
      · refine evs_ret (evp_eqG (evp_least (evd_v 0 rfl (hx.mono s1)) f) (evd_v 0 rfl (hx.mono s1)) (n := 4) (m := 4) (fun d ⟨T, e, _⟩ => e ▸ good_lad f.v.ok T) (fun d e => e ▸ good_lad f.v.ok L) (by decide) (by decide)) fun v H2 r s2 p2 ⟨d, e, b, ⟨T, ed, m⟩, ee, er, hb⟩ => ?_
        subst er
        cases p2
        refine q b H2 (s1.trans s2) ?_
        rw [hb, ed, ee]
        constructor
        · intro z
          rw [← (ladD_inj z).2]
          exact m.1
        · intro il
          rw [least_uniq m.1 il m.2.1]
      · obtain ⟨_, d', e1, no⟩ := z
        cases e1
        rw [isLad_of f.v] at no
        cases no
    · refine evq_dropE (eva_cons (evd_v 0 rfl hx) eva_nil) ⟨_, rfl, la⟩ (fun H1 r s1 p1 => ?_) fun C H1 s1 z => ?_
      · obtain ⟨_, d', e1, yes⟩ := p1
        cases e1
        rw [no] at yes
        cases yes
      · obtain ⟨rfl, _⟩ := z
        exact e H1 s1
def spSame (K : PySem.W.Frag) (CL CO CU : Addr) : Sp := fun vs H Q E => ∃ (x y : V) (d e : PyData), vs = [x, y] ∧ Dq K H x d ∧ Dq K H y e ∧
  ((∃ lt B L C M, d = ladD lt L ∧ e = ladD lt M ∧ Fits lt B L ∧ Fits lt C M ∧ ∀ (b : Bool) H', Same H H' → (b = true ↔ ∀ w, L.cost w = M.cost w) → Q (.bl b) H') ∨
   (∃ lt L lu M, d = ladD lt L ∧ e = ladD lu M ∧ Valid lt L ∧ Valid lu M ∧ lt ≠ lu ∧ ∀ H', Same H H' → E (.ref CU) none H') ∨
   (∃ lt L, d = ladD lt L ∧ Valid lt L ∧ LadArg e ∧ isLadD e = false ∧ ∀ H', Same H H' → E (.ref CO) none H') ∨
   (LadArg d ∧ isLadD d = false ∧ ∀ H', Same H H' → E (.ref CL) none H'))
theorem ok_same_ladders (T : Txt K mg) : FnOk P w K mg base (L2.CX P w) 6 T.A_same_ladders.f T.A_same_ladders.d ["ladder", "other"] (spSame K T.X_BadLadder.C T.X_BadOther.C T.X_Unlike.C) := by
  refine T.A_same_ladders.F.okX sc_same_ladders (fun vs H Q E h => ?_) (fun cdv A outer s H vs Q E hr h => ?_)
  · obtain ⟨_, _, _, _, rfl, _⟩ := h; rfl
  · obtain ⟨x, y, d, e, rfl, hx, hy, h⟩ := h
    refine ⟨_, ((pss_cons (ps_expr (pe_call (ok_need_ladder T) (hr.mono (by decide)) (by rfl) T.A_need_ladder.g T.A_need_ladder.F.kp T.A_need_ladder.b .nil (passes_call (takes_of rfl rfl rfl rfl) (fun _ _ _ _ h => h)) (pa_cons (pv 0) pa_nil)))
  (pss_cons (ps_if (pt_not (pt_val (pe_call (ok_is_ladder T) (hr.mono (by decide)) (by rfl) T.A_is_ladder.g T.A_is_ladder.F.kp T.A_is_ladder.b .nil pass0 (pa_cons (pv 1) pa_nil)))) (pss_one (ps_raise rfl (takes_of rfl rfl rfl rfl) (pmk_own PySem.F.excBase_ValueError T.X_BadOther.ex T.X_BadOther.g T.X_BadOther.k (raises_own T.X_BadOther.sB T.X_BadOther.ty) (by rfl)))) pss_nil)
  (pss_cons (ps_expr (pe_call (ok_need_alike T) (hr.mono (by decide)) (by rfl) T.A_need_alike.g T.A_need_alike.F.kp T.A_need_alike.b .nil (passes_call (takes_of rfl rfl rfl rfl) (fun _ _ _ _ h => h)) (pa_cons (pe_ix (kIxT (K := K)) (pv 0) pe_int (fun _ _ => rfl)) (pa_cons (pe_ix (kIxT (K := K)) (pv 1) pe_int (fun _ _ => rfl)) pa_nil))))
  (pss_one (ps_ret (pe_cmpR (kEqD (K := K) (hu64 hr)) (pe_call (ok_least_of_ladder T) (hr.mono (by decide)) (by rfl) T.A_least_of_ladder.g T.A_least_of_ladder.F.kp T.A_least_of_ladder.b .nil pass0 (pa_cons (pv 0) pa_nil)) (pe_call (ok_least_of_ladder T) (hr.mono (by decide)) (by rfl) T.A_least_of_ladder.g T.A_least_of_ladder.F.kp T.A_least_of_ladder.b .nil pass0 (pa_cons (pv 1) pa_nil)) (nomark _)))))))), ?_⟩
    have isl : ∀ {H1 : Hp}, Same H H1 → LadArg e → EvB (tTest (tCall (spIsLadder K) [] E0 (tCons (tVar 1) tNil))) [some x, some y] H1 (isLadD e) := fun s1 la => evb_test ((evp_call (eva_cons (evd_v 1 rfl (hy.mono s1)) eva_nil) ⟨e, rfl, la⟩).imp fun r ⟨d', e1, er⟩ => by cases e1; exact er)
    rcases h with ⟨lt, B, L, C, M, rfl, rfl, f, g, q⟩ | ⟨lt, L, lu, M, rfl, rfl, v, v', ne, er⟩ | ⟨lt, L, rfl, v, la, no, er⟩ | ⟨la, no, er⟩
    · refine evq_dropE (eva_cons (evd_v 0 rfl hx) eva_nil) ⟨_, rfl, ladArg_of f.v.ok⟩ (fun H1 r s1 p1 => ?_) fun C H1 s1 z => ?_
      · refine evq_ifn (b := false) (evb_is (evb_not (isl s1 (ladArg_of g.v.ok))) (by rw [isLad_of g.v]; rfl)) (fun z => nomatch z) fun _ H2 s2 => ?_
        have s12 := s1.trans s2
        refine evq_dropE (eva_cons (evd_ixT (i := 0) (evd_v 0 rfl (hx.mono s12)) evd_int rfl) (eva_cons (evd_ixT (i := 0) (evd_v 1 rfl (hy.mono s12)) evd_int rfl) eva_nil)) ⟨lt, lt, rfl, f.v.ok, f.v.ok⟩ (fun H3 r s3 p3 => ?_) fun C H3 s3 z => ?_
        · have s13 := s12.trans s3
          refine evs_ret (evp_eqG (evp_least (evd_v 0 rfl (hx.mono s13)) f) (evp_least (evd_v 1 rfl (hy.mono s13)) g) (n := 4) (m := 4) (fun d ⟨T, e, _⟩ => e ▸ good_lad f.v.ok T) (fun d ⟨T, e, _⟩ => e ▸ good_lad f.v.ok T) (by decide) (by decide)) fun v H4 r s4 p4 ⟨d, e, b, ⟨T, ed, m⟩, ⟨U, ee, m'⟩, er, hb⟩ => ?_
          subst er
          cases p4
          refine q b H4 (s13.trans s4) ?_
          rw [hb, ed, ee]
          constructor
          · intro z wd
            rw [← m.2.1 wd, ← m'.2.1 wd, (ladD_inj z).2]
          · intro hc
            rw [least_uniq m.1 m'.1 fun wd => by rw [m.2.1, m'.2.1, hc]]
        · obtain ⟨_, a, b, e1, ne⟩ := z
          have h1 : letD lt = letD a := by
            have := List.cons.inj e1
            exact this.1
          have h2 : letD lt = letD b := by
            have := List.cons.inj (List.cons.inj e1).2
            exact this.1
          exact absurd ((letD_inj h1).symm.trans (letD_inj h2)) ne
      · obtain ⟨_, d', e1, no⟩ := z
        cases e1
        rw [isLad_of f.v] at no
        cases no
    · refine evq_dropE (eva_cons (evd_v 0 rfl hx) eva_nil) ⟨_, rfl, ladArg_of v.ok⟩ (fun H1 r s1 p1 => ?_) fun C H1 s1 z => ?_
      · refine evq_ifn (b := false) (evb_is (evb_not (isl s1 (ladArg_of v'.ok))) (by rw [isLad_of v']; rfl)) (fun z => nomatch z) fun _ H2 s2 => ?_
        have s12 := s1.trans s2
        refine evq_dropE (eva_cons (evd_ixT (i := 0) (evd_v 0 rfl (hx.mono s12)) evd_int rfl) (eva_cons (evd_ixT (i := 0) (evd_v 1 rfl (hy.mono s12)) evd_int rfl) eva_nil)) ⟨lt, lu, rfl, v.ok, v'.ok⟩ (fun H3 r s3 p3 => ?_) fun C H3 s3 z => ?_
        · obtain ⟨_, a, e1⟩ := p3
          have h1 : letD lt = letD a := (List.cons.inj e1).1
          have h2 : letD lu = letD a := (List.cons.inj (List.cons.inj e1).2).1
          exact absurd (letD_inj (h1.trans h2.symm)) ne
        · obtain ⟨rfl, _⟩ := z
          exact er H3 (s12.trans s3)
      · obtain ⟨_, d', e1, no⟩ := z
        cases e1
        rw [isLad_of v] at no
        cases no
    · refine evq_dropE (eva_cons (evd_v 0 rfl hx) eva_nil) ⟨_, rfl, ladArg_of v.ok⟩ (fun H1 r s1 p1 => ?_) fun C H1 s1 z => ?_
      · refine evq_ifn (b := true) (evb_is (evb_not (isl s1 la)) (by rw [no]; rfl)) (fun _ H2 s2 => ?_) fun z => nomatch z
        exact er H2 (s1.trans s2)
      · obtain ⟨_, d', e1, no⟩ := z
        cases e1
        rw [isLad_of v] at no
        cases no
    · refine evq_dropE (eva_cons (evd_v 0 rfl hx) eva_nil) ⟨_, rfl, la⟩ (fun H1 r s1 p1 => ?_) fun C H1 s1 z => ?_
      · obtain ⟨_, d', e1, yes⟩ := p1
        cases e1
        rw [no] at yes
        cases yes
      · obtain ⟨rfl, _⟩ := z
        exact er H1 s1
end
end K96

set_option maxRecDepth 100000
set_option maxHeartbeats 2000000
/-! the bag of cells -/
namespace K96
open PySem PySem.Spec PyProof.Rows L2 KD Ladm
/-- all but what stands at a -/
def Fr (a : Addr) (H H' : Hp) : Prop := ∀ b u, b ≠ a → H b = some u → H' b = some u
theorem Fr.refl (a : Addr) (H : Hp) : Fr a H H := fun _ _ _ h => h
theorem Fr.trans {a : Addr} {H H1 H2 : Hp} (h : Fr a H H1) (k : Fr a H1 H2) : Fr a H H2 := fun b u n e => k b u n (h b u n e)
theorem Fr.of {a : Addr} {H H' : Hp} (h : Same H H') : Fr a H H' := fun b u _ e => h b u e
theorem Fr.upd {a : Addr} {H : Hp} {o : HO} : Fr a H (upd H a o) := fun b u n e => by rw [upd_ne n]; exact e
theorem Fr.kp {a : Addr} {H H' : Hp} (h : Fr a H H') {xs ys : List V} (e : H a = some (.lst xs)) (e' : H' a = some (.lst ys)) : Kp H H' := by
  refine ⟨fun b zs r => ?_, fun b zs r => ?_⟩
  · by_cases c : b = a
    · subst c
      rcases r with r | ⟨o, r⟩ <;> (rw [e] at r; cases r)
    · rcases r with r | ⟨o, r⟩
      · exact .inl (h b _ c r)
      · exact .inr ⟨o, h b _ c r⟩
  · by_cases c : b = a
    · subst c
      exact ⟨ys, .inl e'⟩
    · rcases r with r | ⟨o, r⟩
      · exact ⟨zs, .inl (h b _ c r)⟩
      · exact ⟨zs, .inr ⟨o, h b _ c r⟩⟩
def BagAt (H : Hp) (a c : Addr) (xs : List Int) (at' : Nat) (cell rng : Int) : Prop := H a = some (.lst [.ref c, .int at', .int cell, .int rng]) ∧ H c = some (.lst (xs.map V.int)) ∧ c ≠ a
/-- where the bag stands, where its cells, and what they hold -/
structure Sack where
  a : Addr
  c : Addr
  xs : List Int
def Bag (H : Hp) (b : Sack) (k : Nat) : Prop := ∃ at' cell rng, BagAt H b.a b.c b.xs at' cell rng ∧ at' ≤ k
theorem BagAt.mono {H H' : Hp} {a c : Addr} {xs : List Int} {at' : Nat} {cell rng : Int} (h : BagAt H a c xs at' cell rng) (s : Same H H') : BagAt H' a c xs at' cell rng := ⟨s _ _ h.1, s _ _ h.2.1, h.2.2⟩
theorem Bag.mono {H H' : Hp} {b : Sack} {k : Nat} (h : Bag H b k) (s : Same H H') : Bag H' b k := by
  obtain ⟨at', cell, rng, z, l⟩ := h
  exact ⟨at', cell, rng, z.mono s, l⟩
theorem Bag.more {H : Hp} {b : Sack} {k l : Nat} (h : Bag H b k) (e : k ≤ l) : Bag H b l := by
  obtain ⟨at', cell, rng, b, z⟩ := h
  exact ⟨at', cell, rng, b, by omega⟩
theorem Bag.lst {H : Hp} {b : Sack} {k : Nat} (h : Bag H b k) : ∃ xs, H b.a = some (.lst xs) := by
  obtain ⟨at', cell, rng, z, l⟩ := h
  exact ⟨_, z.1⟩
theorem Bag.kp {H H' : Hp} {b : Sack} {k l : Nat} (h : Bag H b k) (h' : Bag H' b l) (f : Fr b.a H H') : Kp H H' := by
  obtain ⟨xs, e⟩ := h.lst
  obtain ⟨ys, e'⟩ := h'.lst
  exact f.kp e e'
theorem Bag.ne {H : Hp} {b : Sack} {k : Nat} {p : Addr} (h : Bag H b k) (hp : H p = none) : p ≠ b.a ∧ p ≠ b.c := by
  obtain ⟨at', cell, rng, z, l⟩ := h
  exact ⟨(fun e => by have := z.1; rw [← e, hp] at this; cases this), (fun e => by have := z.2.1; rw [← e, hp] at this; cases this)⟩
theorem Bag.mut {H H' : Hp} {b : Sack} {k l : Nat} {p : Addr} {o : HO} (h : Bag H b k) (h' : Bag H' b l) (hp : H p = none) : Bag (upd H' p o) b l := by
  obtain ⟨n1, n2⟩ := h.ne hp
  obtain ⟨at', cell, rng, z, ll⟩ := h'
  exact ⟨at', cell, rng, ⟨by rw [upd_ne (Ne.symm n1)]; exact z.1, by rw [upd_ne (Ne.symm n2)]; exact z.2.1, z.2.2⟩, ll⟩
theorem Fr.mut {a : Addr} {H H' : Hp} {p : Addr} {o : HO} (f : Fr a H H') (hp : H p = none) : Fr a H (L2.upd H' p o) := fun b u n e => by
  rw [upd_ne (fun z => by rw [z, hp] at e; cases e)]
  exact f b u n e
section
variable {K : PySem.W.Frag} {H : Hp} {σ : L2.St} {te ta tb : TE} {D : Ends} {u : TS}
def rInt1 : List V → Hp → VK → Prop := fun xs H Q => (∃ i, xs = [.int i] ∧ Q (.int i) H) ∨ ∃ k, xs = [.bl k] ∧ Q (.int (if k then 1 else 0)) H
theorem kInt {X : Cx} : CallR X (.type "int") rInt1 := call_int1
theorem kListOf {X : Cx} {K : PySem.W.Frag} (hK : X.K = K := by rfl) : CallR X (.type "list") (fun xs H Q => ∃ p ys, xs = [.ref p] ∧ (SqL K H p ys ∨ SqT K H p ys) ∧ ∀ l, H l = none → Q (.ref l) (upd H l (.lst ys))) := by subst hK; exact call_list_of
theorem kMin2 {X : Cx} (hc : X.calm = true := by rfl) : CallR X (.builtin "min") (fun xs H Q => ∃ i j, xs = [.int i, .int j] ∧ Q (.int (if j < i then j else i)) H) := call_min2 hc
theorem evd_intC {i : Int} (h : EvD K te σ H (.int i)) : EvD K (tCB rInt1 (tCons te tNil)) σ H (.int i) := fun H1 s Q q => h.run s fun v H2 s2 p2 => by
  cases p2
  exact .inl ⟨i, rfl, q _ H2 _ s2 (.int i) rfl⟩
theorem evd_intB {b : Bool} (h : EvD K te σ H (.bool b)) : EvD K (tCB rInt1 (tCons te tNil)) σ H (.int (if b then 1 else 0)) := fun H1 s Q q => h.run s fun v H2 s2 p2 => by
  cases p2
  exact .inr ⟨b, rfl, q _ H2 _ s2 (.int _) rfl⟩
theorem ref_ixLs {p q : Addr} {xs : List V} {i : Nat} (hs : SqL K H p xs) (hx : xs[i]? = some (.ref q)) (ha : Ref ta σ H p) (hb : EvD K tb σ H (.int i)) : Ref (tOp (rIxL K) ta tb) σ H q := fun H1 s Q hq => ha H1 s _ fun H2 s2 => hb.run (s.trans s2) fun y H3 s3 p3 => by
  cases p3
  exact ⟨p, xs, i, .ref q, rfl, rfl, sqL_same ((s.trans s2).trans s3) hs, atI_nat hx, hq H3 (s2.trans s3)⟩
theorem ixN_at {n j : Nat} (hj : j < n) : ixN n (j : Int) = some j := by
  unfold ixN
  rw [if_pos (by omega), if_pos (by omega)]
  simp
theorem evq_setI {i j : Nat} {p : Addr} {xs : List V} {d : PyData} (hp : H p = some (.lst xs)) (hi : i < xs.length) (hv : σ[j]? = some (some (.ref p))) (h : EvD K te σ H d) (q : ∀ v H1, Same H H1 → Dq K H1 v d → u D σ (upd H1 p (.lst (xs.set i v)))) :
    tSeq (tAsg te (gSub (tVar j) (tC (.int (i : Nat))) rSetL)) u D σ H := h.use _ fun v H1 s1 p1 => ⟨.ref p, hv, p, xs, i, i, rfl, rfl, s1 _ _ hp, ixN_at hi, q v H1 s1 p1⟩
theorem bag_ix {a c : Addr} {xs : List Int} {at' : Nat} {cell rng : Int} {i : Nat} {d : PyData} (hb : BagAt H a c xs at' cell rng) (h0 : σ[0]? = some (some (.ref a))) (h : ([PyData.list [], .int at', .int cell, .int rng] : List PyData)[i]? = some d) : EvD K (tOp (rIxL K) (tVar 0) (tC (.int (i : Nat)))) σ H d :=
  evd_ixLs (.inl (.inl hb.1)) (.cons (.lst (.inl (.inl hb.2.1))) (.cons (.int _) (.cons (.int _) (.one (.int _))))) (evr_v 0 h0) evd_int h
theorem bag_ref {a c : Addr} {xs : List Int} {at' : Nat} {cell rng : Int} (hb : BagAt H a c xs at' cell rng) (h0 : σ[0]? = some (some (.ref a))) : Ref (tOp (rIxL K) (tVar 0) (tC (.int 0))) σ H c :=
  ref_ixLs (i := 0) (.inl (.inl hb.1)) rfl (evr_v 0 h0) (evd_int (K := K))
theorem pick_end {a c : Addr} {xs : List Int} {at' k : Nat} {cell rng many : Int} {x2 x3 : Option V} (hb : BagAt H a c xs at' cell rng) (hk : at' ≤ k) (m0 : 0 < many) (m1 : many < 1073741824)
    (q : ∀ g H', 0 ≤ g → g < many → Fr a H H' → Bag H' ⟨a, c, xs⟩ k → D.rt (.int g) H') :
    (tSeq (tAsg (tOp (rI (fun _ j => 0 < j) fun i j => .int (i % j)) (tCB rInt1 (tCons (tOp (rIxL K) (tVar 0) (tC (.int 2))) tNil)) (tVar 1)) (gName 4))
      (tSeq (tAsg (tOp (rI CDiv fun i j => .int (i / j)) (tOp (rIxL K) (tVar 0) (tC (.int 2))) (tVar 1)) (gSub (tVar 0) (tC (.int 2)) rSetL)) (tRet (tVar 4)))) D [some (.ref a), some (.int many), x2, x3, none] H := by
  refine evq_setD (K := K) (evd_arC (g := fun i j => i % j) (evd_intC (bag_ix (i := 2) hb rfl rfl)) (evd_v 1 rfl (.int many)) m0) fun v H1 s1 p1 => ?_
  cases p1
  have hb1 := hb.mono s1
  refine evq_setI (K := K) (i := 2) hb1.1 (by simp) rfl (evd_arC (g := fun i j => i / j) (bag_ix (i := 2) hb1 rfl rfl) (evd_v 1 rfl (.int many)) ⟨m0, m1⟩) fun v H2 s2 p2 => ?_
  cases p2
  have hb2 := hb1.mono s2
  refine ⟨_, rfl, q _ _ (Int.emod_nonneg _ (by omega)) (Int.emod_lt_of_pos _ m0) ((Fr.of (s1.trans s2)).trans .upd) ⟨at', _, rng, ⟨upd_same, ?_, hb.2.2⟩, hk⟩⟩
  show (upd _ _ _) c = _
  rw [upd_ne hb.2.2]
  exact hb2.2.1
theorem pick_mid {a c : Addr} {xs : List Int} {at' : Nat} {cell rng many c1 : Int} (hb : BagAt H a c xs at' cell rng)
    (q : ∀ cell' rng' H', Fr a H H' → BagAt H' a c xs (at' + 1) cell' rng' → D.nx [some (.ref a), some (.int many), some (.int (at' : Nat)), some (.int c1), none] H') :
    (tSeq (tAsg (tOp (rI0 fun i j => .int (i + j)) (tVar 2) (tC (.int 1))) (gSub (tVar 0) (tC (.int 1)) rSetL))
      (tSeq (tAsg (tVar 3) (gSub (tVar 0) (tC (.int 2)) rSetL))
        (tAsg (tOp (rI (fun _ j => 0 < j) fun i j => .int (i % j)) (tCB rInt1 (tCons (tOp (rI0 fun i j => .int (i + j)) (tOp (rI CMul fun i j => .int (i * j)) (tOp (rIxL K) (tVar 0) (tC (.int 3))) (tC (.int 40692))) (tVar 3)) tNil)) (tC (.int 2305843009213693951))) (gSub (tVar 0) (tC (.int 3)) rSetL)))) D
      [some (.ref a), some (.int many), some (.int (at' : Nat)), some (.int c1), none] H := by
  refine evq_setI (K := K) (i := 1) hb.1 (by simp) rfl (evd_ar (g := fun i j => i + j) (evd_v 2 rfl (.int _)) evd_int) fun v H1 s1 p1 => ?_
  cases p1
  have hb1 := hb.mono s1
  have b1 : BagAt (upd H1 a (.lst (List.set [.ref c, .int at', .int cell, .int rng] 1 (.int ((at' : Int) + 1))))) a c xs (at' + 1) cell rng := ⟨by rw [upd_same]; rfl, by rw [upd_ne hb.2.2]; exact hb1.2.1, hb.2.2⟩
  refine evq_setI (K := K) (i := 2) b1.1 (by simp) rfl (evd_v 3 rfl (.int c1)) fun v H2 s2 p2 => ?_
  cases p2
  have hb2 := b1.mono s2
  have b2 : BagAt (upd H2 a (.lst (List.set [.ref c, .int ((at' + 1 : Nat) : Int), .int cell, .int rng] 2 (.int c1)))) a c xs (at' + 1) c1 rng := ⟨by rw [upd_same]; rfl, by rw [upd_ne hb.2.2]; exact hb2.2.1, hb.2.2⟩
  refine evq_setI (K := K) (u := fun D => D.nx) (i := 3) b2.1 (by simp) rfl (evd_arC (g := fun i j => i % j) (evd_intC (evd_ar (g := fun i j => i + j) (evd_arC (g := fun i j => i * j) (bag_ix (i := 3) b2 rfl rfl) evd_int (.inr ⟨by decide, by decide⟩)) (evd_v 3 rfl (.int c1)))) evd_int (by decide)) fun v H3 s3 p3 => ?_
  cases p3
  have hb3 := b2.mono s3
  refine q c1 _ _ ?_ ⟨by rw [upd_same]; rfl, by rw [upd_ne hb.2.2]; exact hb3.2.1, hb.2.2⟩
  exact ((Fr.of s1).trans .upd).trans (((Fr.of s2).trans .upd).trans ((Fr.of s3).trans .upd))
end
section
variable {P : Program} {w : World} {K : PySem.W.Frag} {mg : Str → Option Value} {base : Heap}
def spPick : Sp := fun vs H Q _ => ∃ (b : Sack) (many k : Nat), vs = [.ref b.a, .int (many : Nat)] ∧ Bag H b k ∧ 0 < many ∧ many ≤ 1000 ∧ k ≤ 1000000000 ∧ ∀ (g : Nat) H', g < many → Fr b.a H H' → Bag H' b (k + 1) → Q (.int (g : Nat)) H'
theorem ok_l_pick (T : Txt K mg) : FnOk P w K mg base CX0 1 T.A_l_pick.f T.A_l_pick.d ["bag", "many"] spPick := by
  refine T.A_l_pick.F.ok sc_l_pick (fun vs H Q E h => ?_) (fun cdv A outer s H vs Q E hr h => ?_)
  · obtain ⟨_, _, _, rfl, _⟩ := h; rfl
  · obtain ⟨⟨a, c, xs⟩, many, k, rfl, ⟨at', cell, rng, hb, hk⟩, m0, m1, hk9, q⟩ := h
    simp only at hb q
    refine ⟨_, ((pss_cons (ps_if (pt_cmpR op_lt (pe_ix (kIxL (K := K)) (pv 0) pe_int (fun _ _ => rfl)) (pv 1) (nomark _)) (pss_cons (ps_set (i := 2) sc_l_pick.nd rfl (.inl rfl) (pe_ix (kIxL (K := K)) (pv 0) pe_int (fun _ _ => rfl)))
  (pss_cons (ps_set (i := 3) sc_l_pick.nd rfl (.inl rfl) (pe_ifExp (pt_cmpR op_lt (pv 2) (pe_callB (kLen (K := K)) (by rfl) T.n_len (by decide +kernel) (pa_cons (pe_ix (kIxL (K := K)) (pv 0) pe_int (fun _ _ => rfl)) pa_nil)) (nomark _)) (pe_ix (kIxL (K := K)) (pe_ix (kIxL (K := K)) (pv 0) pe_int (fun _ _ => rfl)) (pv 2) (fun _ _ => rfl)) (pe_op op_add (pe_op op_fdiv (pe_ix (kIxL (K := K)) (pv 0) pe_int (fun _ _ => rfl)) pe_int) (pe_op op_mul pe_int (pv 2)))))
  (pss_cons (ps_set (i := 3) sc_l_pick.nd rfl (.inl rfl) (pe_ifExp (pt_cmpR op_ge (pv 3) pe_int (nomark _)) (pe_op op_mul pe_int (pv 3)) (pe_op op_sub (pe_op op_mul (pe_un un_neg pe_int) (pv 3)) pe_int)))
  (pss_cons (ps_if (pt_cmpR op_lt (pv 3) (pe_op op_pow pe_int pe_int) (nomark _)) (pss_cons (ps_set (i := 3) sc_l_pick.nd rfl (.inl rfl) (pe_op op_mul (pe_op op_add (pe_op op_add (pe_op op_mul (pv 3) pe_int) (pe_op op_mul pe_int (pv 2))) pe_int) (pe_op op_add (pe_op op_add (pv 3) pe_int) (pv 2))))
  (pss_one (ps_set (i := 3) sc_l_pick.nd rfl (.inl rfl) (pe_op op_add (pe_op op_fdiv (pe_op op_mulW (pv 3) (pv 3)) pe_int) (pe_op op_mul (pv 3) pe_int))))) pss_nil)
  (pss_cons (ps_asg (pe_op op_add (pv 2) pe_int) (pg_sub (pv 0) pe_int set_list))
  (pss_cons (ps_asg (pv 3) (pg_sub (pv 0) pe_int set_list))
  (pss_one (ps_asg (pe_op op_mod (pe_callTy kInt (by rfl) T.n_int (by decide +kernel) (pa_cons (pe_op op_add (pe_op op_mul (pe_ix (kIxL (K := K)) (pv 0) pe_int (fun _ _ => rfl)) pe_int) (pv 3)) pa_nil)) pe_int) (pg_sub (pv 0) pe_int set_list))))))))) pss_nil)
  (pss_cons (ps_set (i := 4) sc_l_pick.nd rfl (.inl rfl) (pe_op op_mod (pe_callTy kInt (by rfl) T.n_int (by decide +kernel) (pa_cons (pe_ix (kIxL (K := K)) (pv 0) pe_int (fun _ _ => rfl)) pa_nil)) (pv 1)))
  (pss_cons (ps_asg (pe_op op_fdiv (pe_ix (kIxL (K := K)) (pv 0) pe_int (fun _ _ => rfl)) (pv 1)) (pg_sub (pv 0) pe_int set_list))
  (pss_one (ps_ret (pv 4))))))), ?_⟩
    have q' : ∀ g H', 0 ≤ g → g < (many : Int) → Fr a H H' → Bag H' ⟨a, c, xs⟩ (k + 1) → Q (.int g) H' := fun g H' h0 h1 f b => by
      have := q g.toNat H' (by omega) f b
      rwa [Int.toNat_of_nonneg h0] at this
    refine evq_ifn (b := decide (cell < (many : Int))) (evb_test (evd_lt (K := K) (g := fun i j => decide (i < j)) (bag_ix (i := 2) hb rfl rfl) (evd_v 1 rfl (.int _)))) (fun _ H1 s1 => ?_) fun _ H1 s1 => ?_
    · have hb1 := hb.mono s1
      refine evq_setD (bag_ix (K := K) (i := 1) hb1 rfl rfl) fun v H2 s2 p2 => ?_
      cases p2
      have hb2 := hb1.mono s2
      refine evq_set (K := K) (P := fun r => ∃ i, r = .int i) (evp_if (b := decide ((at' : Int) < (xs.length : Nat))) (evb_test (evd_lt (g := fun i j => decide (i < j)) (evd_v 2 rfl (.int _)) (evd_is (evd_lenLs (.inl (.inl hb2.2.1)) (bag_ref hb2 rfl)) (by rw [List.length_map])))) (fun hc => ?_) fun hc => ?_) fun v H3 r s3 p3 ⟨c0, e0⟩ => ?_
      · have lt : at' < xs.length := by have := of_decide_eq_true hc; omega
        exact EvP.imp (evd_ixLs (i := at') (.inl (.inl hb2.2.1)) (DqAll.ints xs) (bag_ref hb2 rfl) (evd_v 2 rfl (.int _)) (f := .int xs[at']) (by rw [List.getElem?_map, List.getElem?_eq_getElem lt]; rfl)) fun r e => ⟨_, e⟩
      · exact EvP.imp (evd_ar (g := fun i j => i + j) (evd_arC (g := fun i j => i / j) (bag_ix (i := 3) hb2 rfl rfl) evd_int ⟨by decide, by decide⟩) (evd_arC (g := fun i j => i * j) evd_int (evd_v 2 rfl (.int _)) (.inl ⟨by decide, by decide⟩))) fun r e => ⟨_, e⟩
      · subst e0
        cases p3
        have hb3 := hb2.mono s3
        refine evq_set (K := K) (P := fun r => ∃ i, r = .int i ∧ 0 ≤ i) (evp_if (b := decide (c0 ≥ 0)) (evb_test (evd_lt (g := fun i j => decide (i ≥ j)) (evd_v (K := K) 3 rfl (.int c0)) evd_int)) (fun hc => ?_) fun hc => ?_) fun v H4 r s4 p4 ⟨c1, e1, n1⟩ => ?_
        · have := of_decide_eq_true hc
          exact EvP.imp (evd_arC (g := fun i j => i * j) evd_int (evd_v 3 rfl (.int c0)) (.inl ⟨by decide, by decide⟩)) fun r e => ⟨_, e, by omega⟩
        · have := of_decide_eq_false hc
          exact EvP.imp (evd_ar (g := fun i j => i - j) (evd_arC (g := fun i j => i * j) (evd_neg evd_int) (evd_v 3 rfl (.int c0)) (.inl ⟨by decide, by decide⟩)) evd_int) fun r e => ⟨_, e, by omega⟩
        · subst e1
          cases p4
          have hb4 := hb3.mono s4
          have s14 := s1.trans (s2.trans (s3.trans s4))
          have p18 : (10 : Int) ^ (18 : Int).toNat = 1000000000000000000 := by decide
          refine evq_ifn (b := decide (c1 < (10 : Int) ^ (18 : Int).toNat)) (evb_test (evd_lt (g := fun i j => decide (i < j)) (evd_v (K := K) 3 rfl (.int c1)) (evd_arC (g := fun i j => i ^ j.toNat) evd_int evd_int ⟨by decide, by decide, by decide⟩))) (fun hc H5 s5 => ?_) fun hc H5 s5 => ?_
          · have hc := of_decide_eq_true hc
            rw [p18] at hc
            have hb5 := hb4.mono s5
            refine evq_setD (K := K) (evd_arC (g := fun i j => i * j) (evd_ar (g := fun i j => i + j) (evd_ar (g := fun i j => i + j) (evd_arC (g := fun i j => i * j) (evd_v 3 rfl (.int c1)) evd_int (.inr ⟨by decide, by decide⟩)) (evd_arC (g := fun i j => i * j) evd_int (evd_v 2 rfl (.int _)) (.inl ⟨by decide, by decide⟩))) evd_int)
              (evd_ar (g := fun i j => i + j) (evd_ar (g := fun i j => i + j) (evd_v 3 rfl (.int c1)) evd_int) (evd_v 2 rfl (.int _))) (.inr ⟨by omega, by omega⟩)) fun v H6 s6 p6 => ?_
            cases p6
            generalize hP : (c1 * 1103515249 + 12820163 * (at' : Int) + 2147480009) * (c1 + 86028157 + (at' : Int)) = prod
            have pb : prod.natAbs < 2 ^ 200 := by
              have x1 : 0 ≤ c1 * 1103515249 + 12820163 * (at' : Int) + 2147480009 := by omega
              have x2 : c1 * 1103515249 + 12820163 * (at' : Int) + 2147480009 ≤ 2 ^ 100 := by omega
              have x3 : 0 ≤ c1 + 86028157 + (at' : Int) := by omega
              have x4 : c1 + 86028157 + (at' : Int) ≤ 2 ^ 90 := by omega
              have m1 := Int.mul_nonneg x1 x3
              have m2 := Int.mul_le_mul x2 x4 x3 (by decide)
              rw [hP] at m1 m2
              have : (2 : Int) ^ 100 * 2 ^ 90 < 2 ^ 200 := by decide
              omega
            refine evs_setD (K := K) (evd_ar (g := fun i j => i + j) (evd_arC (g := fun i j => i / j) (evd_arC (g := fun i j => i * j) (evd_v 3 rfl (.int prod)) (evd_v 3 rfl (.int prod)) (wide_mul pb pb (by decide) (by decide) (by decide))) evd_int ⟨by decide, by decide⟩) (evd_arC (g := fun i j => i * j) (evd_v 3 rfl (.int prod)) evd_int (.inr ⟨by decide, by decide⟩))) fun v H7 s7 p7 => ?_
            cases p7
            have hb7 := (hb5.mono s6).mono s7
            refine pick_mid (K := K) hb7 fun cell' rng' H8 f8 b8 => ?_
            exact pick_end (K := K) b8 (by omega) (by omega) (by omega) fun g H9 h0 h1 f9 b9 => q' g H9 h0 h1 (((Fr.of (s14.trans (s5.trans (s6.trans s7)))).trans f8).trans f9) b9
          · have hb5 := hb4.mono s5
            refine pick_mid (K := K) hb5 fun cell' rng' H8 f8 b8 => ?_
            exact pick_end (K := K) b8 (by omega) (by omega) (by omega) fun g H9 h0 h1 f9 b9 => q' g H9 h0 h1 (((Fr.of (s14.trans s5)).trans f8).trans f9) b9
    · exact pick_end (K := K) (hb.mono s1) (show at' ≤ k + 1 by omega) (by omega) (by omega) fun g H9 h0 h1 f9 b9 => q' g H9 h0 h1 ((Fr.of s1).trans f9) b9
end
end K96

set_option maxRecDepth 100000
set_option maxHeartbeats 2000000
/-! the law's bag, letters, words -/
namespace K96
open PySem PySem.Spec PyProof.Rows L2 KD Ladm
section
variable {K : PySem.W.Frag} {H : Hp} {σ : L2.St} {te ta tb : TE} {tt : TT} {D : Ends} {u : TS} {E : XK} {Q : VK}
theorem call_pick {b : Sack} {k many i : Nat} (h0 : σ[i]? = some (some (.ref b.a))) (hb : Bag H b k) (h : EvD K te σ H (.int (many : Nat))) (m0 : 0 < many) (m1 : many ≤ 1000) (hk : k ≤ 1000000000) (q : ∀ (g : Nat) H', g < many → Fr b.a H H' → Bag H' b (k + 1) → Q (.int (g : Nat)) H') :
    tCall spPick [] E (tCons (tVar i) (tCons te tNil)) σ H Q := ⟨.ref b.a, h0, h.use _ fun v H1 s1 p1 => by
  cases p1
  exact ⟨b, many, k, rfl, hb.mono s1, m0, m1, hk, fun g H' hg f b => q g H' hg ((Fr.of s1).trans f) b⟩⟩
theorem evs_ret1 {r : List V → Hp → VK → Prop} (h : te σ H fun v H1 => r [v] H1 fun v2 H2 => D.rt v2 H2) : tRet (tCB r (tCons te tNil)) D σ H := h
theorem lc_pick {b : Sack} {k many i : Nat} {g : TG} {te' : TE} {vs : List Nat} (h0 : σ[i]? = some (some (.ref b.a))) (hb : Bag H b k) (h : EvD K te σ H (.int (many : Nat))) (m0 : 0 < many) (m1 : many ≤ 1000) (hk : k ≤ 1000000000)
    (q : ∀ (n : Nat) H', n < many → Fr b.a H H' → Bag H' b (k + 1) → tLc (fun _ H R => R (Itr 0 n) H) g tt te' vs σ H' Q) : tLc (iRng1 (tCons (tCall spPick [] E (tCons (tVar i) (tCons te tNil))) tNil)) g tt te' vs σ H Q :=
  call_pick h0 hb h m0 m1 hk fun n H1 hn f b1 => ⟨(n : Int), rfl, by omega, by omega, by rw [Int.toNat_natCast]; exact q n H1 hn f b1⟩
/-- a list, new or not -/
def EvLs (K : PySem.W.Frag) (te : TE) (σ : L2.St) (H : Hp) (ds : List PyData) : Prop :=
  ∀ H1, Same H H1 → ∀ Q : VK, (∀ p xs H2, Same H1 H2 → H2 p = some (.lst xs) → DqAll K H2 xs ds → Q (.ref p) H2) → te σ H1 Q
theorem EvL.ls {ds : List PyData} (h : EvL K te σ H ds) : EvLs K te σ H ds := fun H1 s Q q => h H1 s Q fun p xs H2 _ s2 e d => q p xs H2 s2 e d
theorem evls_v {p : Addr} {xs : List V} {ds : List PyData} (e : H p = some (.lst xs)) (d : DqAll K H xs ds) (h : Ref te σ H p) : EvLs K te σ H ds := fun H1 s Q q => h H1 s Q fun H2 s2 => q p xs H2 s2 ((s.trans s2) _ _ e) (d.mono (s.trans s2))
theorem evl_cat {ds es : List PyData} (ha : EvLs K ta σ H ds) (hb : EvLs K tb σ H es) (hl : ds.length + es.length ≤ 100000) : EvL K (tOp rCat ta tb) σ H (ds ++ es) := fun H1 s Q q =>
  ha H1 s _ fun p xs H2 s2 e2 d2 => hb H2 (s.trans s2) _ fun p' ys H3 s3 e3 d3 =>
    ⟨p, p', xs, ys, rfl, rfl, s3 _ _ e2, e3, by rw [d2.length, d3.length, sizeLine_eq]; omega, fun r hr => q r _ _ ((s2.trans s3).free hr) ((s2.trans s3).trans (same_new hr)) upd_same (((d2.mono s3).append d3).mono (same_new hr))⟩
/-- a comprehension over numbers that are known -/
theorem lc_itr (K : PySem.W.Frag) {n : Nat} {g : TG} {vs : List Nat} (hl : n ≤ 100000) (Pv : Hp → Addr → Nat → List V → Hp → Prop)
    (h0 : ∀ H2 D, Same H H2 → H2 D = none → Pv H2 D 0 [] (upd H2 D (.lst [])))
    (step : ∀ H2 D i acc H', Same H H2 → H2 D = none → i < n → H' D = some (.lst acc) → Pv H2 D i acc H' →
      g (.int (i : Nat)) (wipe σ vs) H' fun σ2 H3 => wipe σ2 vs = wipe σ vs ∧ tt σ2 H3 fun b H4 => if b = true then te σ2 H4 fun y H5 => H5 D = some (.lst acc) ∧ Pv H2 D (i + 1) (acc ++ [y]) (upd H5 D (.lst (acc ++ [y]))) else H4 D = some (.lst acc) ∧ Pv H2 D (i + 1) acc H4)
    (hk : ∀ H2 D i acc H', Same H H2 → H2 D = none → i ≤ n → Pv H2 D i acc H' → Kp H2 H')
    (same : ∀ H2 D i acc H' H'', Pv H2 D i acc H' → H' D = some (.lst acc) → Same H' H'' → Pv H2 D i acc H'')
    (mg : ∀ x σ' H' (Q1 Q2 : L2.St → Hp → Prop), (∀ a b, Q1 a b → Q2 a b) → g x σ' H' Q1 → g x σ' H' Q2) (mt : ∀ σ' H' (Q1 Q2 : Bool → Hp → Prop), (∀ a b, Q1 a b → Q2 a b) → tt σ' H' Q1 → tt σ' H' Q2)
    (me : ∀ σ' H' (Q1 Q2 : VK), (∀ a b, Q1 a b → Q2 a b) → te σ' H' Q1 → te σ' H' Q2)
    (fin : ∀ H2 D acc H', Same H H2 → H2 D = none → H' D = some (.lst acc) → Pv H2 D n acc H' → Q (.ref D) H') : tLc (fun _ H R => R (Itr 0 n) H) g tt te vs σ H Q := by
  have ln : (nats n).length = n := by simp [nats]
  refine lc_inv (K := K) (Rl := Kp) (ds := nats n) (fun H1 s R q => q _ H1 (Same.refl _) itr_nats) (by rw [ln]; exact hl) Pv (fun H2 D i acc H' s2 hD hi p => hk H2 D i acc H' s2 hD (by rw [ln] at hi; exact hi) p) h0 (fun H2 D i d acc H' x H'' s2 hD hd e p s4 dx => ?_) mg mt me (fun H2 D acc H' s2 hD e p => fin H2 D acc H' s2 hD e (by rw [ln] at p; exact p))
  have hi : i < n := by
    have := (List.getElem?_eq_some_iff.mp hd).1
    rwa [ln] at this
  have : (nats n)[i]? = some (.int (i : Nat)) := by
    unfold nats
    rw [List.getElem?_map, List.getElem?_range hi]; rfl
  rw [this] at hd
  cases hd
  cases dx
  exact step H2 D i acc H'' s2 hD hi (s4 _ _ e) (same _ _ _ _ _ _ p e s4)
theorem pick_mono {i : Nat} (mtE : ∀ σ' H' (Q1 Q2 : VK), (∀ a b, Q1 a b → Q2 a b) → te σ' H' Q1 → te σ' H' Q2) (σ' : L2.St) (H' : Hp) (Q1 Q2 : VK) (h : ∀ a b, Q1 a b → Q2 a b) (x : tCall spPick [] E (tCons (tVar i) (tCons te tNil)) σ' H' Q1) : tCall spPick [] E (tCons (tVar i) (tCons te tNil)) σ' H' Q2 := by
  obtain ⟨v, e, y⟩ := x
  refine ⟨v, e, mtE _ _ _ _ (fun v2 H2 z => ?_) y⟩
  obtain ⟨a, many, k, e1, b, m0, m1, hk, q⟩ := z
  exact ⟨a, many, k, e1, b, m0, m1, hk, fun g H'' hg f b' => h _ _ (q g H'' hg f b')⟩
end
def Lets (lt : List Str) : Prop := lt = (["a"] : List Str) ∨ lt = (["a", "b"] : List Str) ∨ lt = (["x1", "y"] : List Str)
theorem Lets.ok {lt : List Str} (h : Lets lt) : LetOk lt := by
  rcases h with rfl | rfl | rfl
  · exact ⟨by decide, by decide, by decide +kernel, by decide, by decide +kernel⟩
  · exact ⟨by decide, by decide, by decide +kernel, by decide, by decide +kernel⟩
  · exact ⟨by decide, by decide, by decide +kernel, by decide, by decide +kernel⟩
theorem Lets.len {lt : List Str} (h : Lets lt) : 1 ≤ lt.length ∧ lt.length ≤ 2 := by
  rcases h with rfl | rfl | rfl <;> decide
section
variable {P : Program} {w : World} {K : PySem.W.Frag} {mg : Str → Option Value} {base : Heap}
def spBag (K : PySem.W.Frag) : Sp := fun vs H Q _ => ∃ (p : Addr) (ns : List Int), vs = [.ref p] ∧ SqL K H p (ns.map V.int) ∧ ∀ b H', H b.a = none → H b.c = none → Same H H' → Bag H' b 0 → Q (.ref b.a) H'
theorem ok_l_bag (T : Txt K mg) : FnOk P w K mg base CX0 1 T.A_l_bag.f T.A_l_bag.d ["script"] (spBag K) := by
  refine T.A_l_bag.F.ok sc_l_bag (fun vs H Q E h => ?_) (fun cdv A outer s H vs Q E hr h => ?_)
  · obtain ⟨_, _, rfl, _⟩ := h; rfl
  · obtain ⟨p, ns, rfl, hs, q⟩ := h
    refine ⟨_, ((pss_one (ps_ret (pe_lst (pa_cons (pe_callTy (kListOf (K := K)) (by rfl) T.n_list (by decide +kernel) (pa_cons (pv 0) pa_nil)) (pa_cons pe_int (pa_cons pe_int (pa_cons pe_int pa_nil)))))))), ?_⟩
    refine ⟨.ref p, rfl, p, ns.map V.int, rfl, .inl hs, fun c hc => ?_⟩
    refine ⟨(by decide : 4 ≤ sizeLine), fun a ha => ?_⟩
    have s1 := same_new (o := .lst (ns.map V.int)) hc
    have ne : c ≠ a := fun z => by rw [← z, upd_same] at ha; cases ha
    exact q ⟨a, c, ns⟩ _ (s1.free ha) hc (s1.trans (same_new ha)) ⟨0, 0, 7, ⟨upd_same, (upd_ne ne).trans upd_same, ne⟩, Nat.le_refl _⟩
def spLawLetters (K : PySem.W.Frag) : Sp := fun vs H Q _ => ∃ (b : Sack) (k : Nat), vs = [.ref b.a, .int 2] ∧ Bag H b k ∧ k ≤ 1000000 ∧ ∀ lt v H', Lets lt → Fr b.a H H' → Bag H' b (k + 1) → Dq K H' v (letD lt) → Q v H'
theorem ok_l_letters (T : Txt K mg) : FnOk P w K mg base CX0 2 T.A_l_letters.f T.A_l_letters.d ["bag", "most"] (spLawLetters K) := by
  refine T.A_l_letters.F.ok sc_l_letters (fun vs H Q E h => ?_) (fun cdv A outer s H vs Q E hr h => ?_)
  · obtain ⟨_, _, rfl, _⟩ := h; rfl
  · obtain ⟨b, k, rfl, hb, hk, q⟩ := h
    refine ⟨_, ((pss_cons (ps_set (i := 2) sc_l_letters.nd rfl (.inl rfl) (pe_lst (pa_cons (pe_tup (pa_cons pe_str pa_nil)) (pa_cons (pe_tup (pa_cons pe_str (pa_cons pe_str pa_nil))) (pa_cons (pe_tup (pa_cons pe_str (pa_cons pe_str pa_nil))) (pa_cons (pe_tup (pa_cons pe_str (pa_cons pe_str (pa_cons pe_str pa_nil)))) pa_nil))))))
  (pss_one (ps_ret (pe_ix (kIxL (K := K)) (pv 2) (pe_call (ok_l_pick T) (hr.mono (by decide)) (by rfl) T.A_l_pick.g T.A_l_pick.F.kp T.A_l_pick.b .nil pass0 (pa_cons (pv 0) (pa_cons (pe_callB (kMin2) (by rfl) T.n_min (by decide +kernel) (pa_cons (pe_callB (kLen (K := K)) (by rfl) T.n_len (by decide +kernel) (pa_cons (pv 2) pa_nil)) (pa_cons (pe_ifExp (pt_cmpR op_gt (pv 1) pe_int (nomark _)) (pe_op op_add (pv 1) pe_int) pe_int) pa_nil))) pa_nil))) (fun _ _ => rfl)))))), ?_⟩
    refine evq_setL (K := K) (ds := [letD ["a"], letD ["a", "b"], letD ["x1", "y"], letD ["a", "b", "end"]]) (evl_lst (eva_cons (evd_tup (eva_cons evd_str eva_nil) (by simp)) (eva_cons (evd_tup (eva_cons evd_str (eva_cons evd_str eva_nil)) (by simp)) (eva_cons (evd_tup (eva_cons evd_str (eva_cons evd_str eva_nil)) (by simp)) (eva_cons (evd_tup (eva_cons evd_str (eva_cons evd_str (eva_cons evd_str eva_nil))) (by simp)) eva_nil)))) (by simp)) fun p xs H1 hp s1 e1 d1 => ?_
    have hb1 := hb.mono s1
    refine ⟨.ref p, rfl, ?_⟩
    have l4 : xs.length = 4 := d1.length
    have m : EvD K (tCB (fun xs H Q => ∃ i j, xs = [.int i, .int j] ∧ Q (.int (if j < i then j else i)) H) (tCons (tCB (rLenS K) (tCons (tVar 2) tNil)) (tCons (tIf (tTest (tOp (rI0 fun i j => .bl (decide (i > j))) (tVar 1) (tC (.int 1)))) (tOp (rI0 fun i j => .int (i + j)) (tVar 1) (tC (.int 1))) (tC (.int 1))) tNil))) [some (.ref b.a), some (.int 2), some (.ref p)] H1 (.int ((3 : Nat) : Int)) := by
      refine fun H2 s2 Q2 q2 => (evd_lenLs (K := K) (.inl (.inl (s2 _ _ e1))) (evr_v 2 rfl)).run (Same.refl H2) fun v H3 s3 p3 => ?_
      cases p3
      refine (evp_if (K := K) (b := true) (P := fun r => r = .int 3) (evb_test (evd_lt (K := K) (g := fun i j => decide (i > j)) (evd_v 1 rfl (.int 2)) evd_int)) (fun _ => evd_ar (g := fun i j => i + j) (evd_v 1 rfl (.int 2)) evd_int) fun z => nomatch z) H3 (Same.refl _) _ fun v H4 r s4 p4 e4 => ?_
      subst e4
      cases p4
      refine ⟨_, _, rfl, ?_⟩
      rw [l4]
      exact q2 _ H4 _ (s3.trans s4) (.int _) rfl
    refine call_pick (K := K) rfl hb1 m (by decide) (by decide) (by omega) fun g H2 hg f2 b2 => ?_
    have pa := (hb.ne hp).1
    have e2 := f2 p _ pa e1
    have d2 := d1.kp (hb1.kp b2 f2)
    have fr := (Fr.of s1).trans f2
    have fin : ∀ lt, Lets lt → ([letD ["a"], letD ["a", "b"], letD ["x1", "y"], letD ["a", "b", "end"]] : List PyData)[g]? = some (letD lt) → (fun x1 y1 H3 => rIxL K x1 y1 H3 Q) (.ref p) (.int (g : Nat)) H2 := fun lt hl hg => by
      obtain ⟨v, hv, dv⟩ := d2.get hg
      exact ⟨p, xs, g, v, rfl, rfl, .inl (.inl e2), atI_nat hv, q lt v H2 hl fr b2 dv⟩
    match g, hg with
    | 0, _ => exact fin _ (.inl rfl) rfl
    | 1, _ => exact fin _ (.inr (.inl rfl)) rfl
    | 2, _ => exact fin _ (.inr (.inr rfl)) rfl
def spWord (K : PySem.W.Frag) : Sp := fun vs H Q _ => ∃ (b : Sack) (x : V) (lt : List Str) (k : Nat), vs = [.ref b.a, x, .int 9] ∧ Bag H b k ∧ k ≤ 1000000 ∧ Dq K H x (letD lt) ∧ 1 ≤ lt.length ∧ lt.length ≤ 6 ∧
  ∀ wd v H', wd.length ≤ 9 → (∀ l ∈ wd, l < lt.length) → Fr b.a H H' → Bag H' b (k + 10) → Dq K H' v (wordE wd) → Q v H'
theorem ok_l_word (T : Txt K mg) : FnOk P w K mg base CX0 2 T.A_l_word.f T.A_l_word.d ["bag", "letters", "most"] (spWord K) := by
  refine T.A_l_word.F.ok sc_l_word (fun vs H Q E h => ?_) (fun cdv A outer s H vs Q E hr h => ?_)
  · obtain ⟨_, _, _, _, rfl, _⟩ := h; rfl
  · obtain ⟨b, x, lt, k, rfl, hb, hk, hx, l1, l6, q⟩ := h
    refine ⟨_, ((pss_one (ps_ret (pe_callTy (kTup (K := K)) (by rfl) T.n_tuple (by decide +kernel) (pa_cons (pe_lc (own := [("k", 3)]) (g := gName 3) (tt := tYes) rfl sc_l_word.nd (pi_range1 rfl T.n_range (pa_cons (pe_call (ok_l_pick T) (hr.mono (by decide)) (by rfl) T.A_l_pick.g T.A_l_pick.F.kp T.A_l_pick.b .nil pass0 (pa_cons (pv 0) (pa_cons (pe_op op_add (pv 2) pe_int) pa_nil))) pa_nil)) (blkOk_by (own := [("k", 3)]) (N := ["bag", "letters", "most", "k"]) (sc := defScope s_l_word) (by decide +kernel)) (fun _ _ _ _ _ => (pg_name (i := 3) sc_l_word.nd rfl (.inl rfl))) (fun _ _ _ _ _ => pts_nil) (fun _ _ _ _ _ => (pe_call (ok_l_pick T) (hr.mono (by decide)) (by rfl) T.A_l_pick.g T.A_l_pick.F.kp T.A_l_pick.b .nil pass0 (pa_cons (pv 0) (pa_cons (pe_callB (kLen (K := K)) (by rfl) T.n_len (by decide +kernel) (pa_cons (pv 1) pa_nil)) pa_nil))))) pa_nil))))), ?_⟩
    refine evs_ret1 (lc_pick (K := K) (many := 10) rfl hb (evd_is (evd_ar (g := fun i j => i + j) (evd_v 2 rfl (.int 9)) evd_int) rfl) (by decide) (by decide) (by omega) fun n H1 hn f1 b1 => ?_)
    have hx1 := hx.kp (hb.kp b1 f1)
    refine lc_itr K (n := n) (g := gName 3) (tt := tYes) (te := tCall spPick [] E0 (tCons (tVar 0) (tCons (tCB (rLenS K) (tCons (tVar 1) tNil)) tNil))) (vs := [3]) (σ := [some (.ref b.a), some x, some (.int 9), none]) (by omega) (fun H2 D i acc H' => ∃ ws : List Nat, acc = vNats ws ∧ ws.length = i ∧ (∀ l ∈ ws, l < lt.length) ∧ Fr b.a H1 H' ∧ Kp H2 H' ∧ Bag H' b (k + 1 + i))
      (fun H2 D s2 hD => ⟨[], rfl, rfl, (fun _ h => by simp at h), (Fr.of s2).trans (Fr.of (same_new hD)), .of (same_new hD), (b1.mono s2).mono (same_new hD)⟩)
      (fun H2 D i acc H' s2 hD hi eD ⟨ws, eacc, wl, wa, f, kp, bb⟩ => ?_) (fun _ _ _ _ _ _ _ _ ⟨_, _, _, _, _, kp, _⟩ => kp)
      (fun H2 D i acc H' H'' ⟨ws, eacc, wl, wa, f, kp, bb⟩ _ s => ⟨ws, eacc, wl, wa, f.trans (.of s), kp.trans (.of s), bb.mono s⟩) (fun _ _ _ _ _ k h => k _ _ h) (fun _ _ _ _ k h => k _ _ h)
      (fun σ' H' Q1 Q2 hq z => pick_mono (fun σ' H' Q1 Q2 h z => ?_) σ' H' Q1 Q2 hq z) (fun H2 D acc H' s2 hD eD ⟨ws, eacc, wl, wa, f, kp, bb⟩ => ?_)
    · refine ⟨rfl, ?_⟩
      have hx2 := hx1.kp (b1.kp bb f)
      have hD1 := s2.free hD
      refine call_pick (K := K) (many := lt.length) rfl bb (evd_is (evd_lenT (evd_v 1 rfl hx2)) (by rw [List.length_map])) l1 (by omega) (by omega) fun g H5 hg f5 b5 => ?_
      have eD5 := f5 D _ (b1.ne hD1).1 eD
      refine ⟨eD5, ws ++ [g], by rw [eacc, vNats_snoc], by simp [wl], fun l hl => ?_, (f.trans f5).mut hD1, (kp.trans (bb.kp b5 f5)).trans (.updL eD5), b1.mut b5 hD1⟩
      rcases List.mem_append.mp hl with h | h
      · exact wa l h
      · simp at h; omega
    · obtain ⟨v, e, p, ys, e1, e2, q2⟩ := z
      exact ⟨v, e, p, ys, e1, e2, h _ _ q2⟩
    · have hD1 := s2.free hD
      subst eacc
      refine ⟨D, vNats ws, rfl, .inl ⟨.inl (.inl eD), fun l hl => ?_⟩⟩
      refine q ws _ _ (by omega) wa (f1.trans (f.trans (.of (same_new hl)))) ((bb.mono (same_new hl)).more (by omega)) (.tup (.inl (.inl upd_same)) (vNats_dq ws))
end
end K96

set_option maxRecDepth 100000
set_option maxHeartbeats 2000000
/-! the law's words, cost, same -/
namespace K96
open PySem PySem.Spec PyProof.Rows L2 KD Ladm
def Sc : PyData → Bool
  | .none => true
  | .int _ => true
  | .bool _ => true
  | _ => false
def IsWord (m n : Nat) (d : PyData) : Prop := ∃ w : List Nat, d = wordE w ∧ w.length ≤ n ∧ ∀ a ∈ w, a < m
theorem evs_parA {K : PySem.W.Frag} {σ : L2.St} {H : Hp} {D : Ends} {ta : TA} {i j : Nat} {d e : PyData} (h : EvA K ta σ H [d, e]) (q : ∀ x y H1, Same H H1 → Dq K H1 x d → Dq K H1 y e → D.nx ((σ.set i (some x)).set j (some y)) H1) : tPar i j ta D σ H := h H (Same.refl _) _ fun vs H1 s p => by
  obtain ⟨x, y, rfl, k1, k2⟩ := p.two
  exact ⟨x, y, rfl, q x y H1 s k1 k2⟩
theorem evq_parL {σ : L2.St} {H : Hp} {D : Ends} {u : TS} {te tf : TE} {i j : Nat} (h : te σ H fun v H1 => tf σ H1 fun v2 H2 => ∃ a b, [v, v2] = [a, b] ∧ u D ((σ.set i (some a)).set j (some b)) H2) : tSeq (tPar i j (tCons te (tCons tf tNil))) u D σ H := h
theorem evs_parL {σ : L2.St} {H : Hp} {D : Ends} {te tf : TE} {i j : Nat} (h : te σ H fun v H1 => tf σ H1 fun v2 H2 => ∃ a b, [v, v2] = [a, b] ∧ D.nx ((σ.set i (some a)).set j (some b)) H2) : tPar i j (tCons te (tCons tf tNil)) D σ H := h
section
variable {P : Program} {w : World} {K : PySem.W.Frag} {mg : Str → Option Value} {base : Heap}
def spLSame (K : PySem.W.Frag) : Sp := spD K (fun ds => ∃ d, ds = [d, d] ∧ Sc d = true) (fun _ r => r = .bool true)
theorem ok_l_same (T : Txt K mg) : FnOk P w K mg base CX0 1 T.A_l_same.f T.A_l_same.d ["found", "due"] (spLSame K) := by
  refine T.A_l_same.F.ok sc_l_same (fun vs H Q E h => spD_len (n := 2) (fun ds hp => ?_) h) (fun cdv A outer s H vs Q E hr h => ?_)
  · obtain ⟨_, rfl, _⟩ := hp; rfl
  · obtain ⟨ds, hd, ⟨d, rfl, sc⟩, q⟩ := h
    refine ⟨_, ((pss_cons (ps_if (pt_val (pe_callB (kIsi (K := K)) (by rfl) T.n_isinstance (by decide +kernel) (pa_cons (pv 1) (pa_cons (pe_bltn (v := .ty "tuple") (by rfl) T.n_tuple (by decide +kernel) rfl) pa_nil)))) (pss_cons ps_never (pss_one ps_never)) pss_nil)
  (pss_cons (ps_if (PW.pt (pw_or (pt_val (pe_callB (kIsi (K := K)) (by rfl) T.n_isinstance (by decide +kernel) (pa_cons (pv 0) (pa_cons (pe_bltn (v := .ty "tuple") (by rfl) T.n_tuple (by decide +kernel) rfl) pa_nil)))) (pw_or1 (pt_cmpR op_ne (pe_callB (kIsi (K := K)) (by rfl) T.n_isinstance (by decide +kernel) (pa_cons (pv 0) (pa_cons (pe_bltn (v := .ty "bool") (by rfl) T.n_bool (by decide +kernel) rfl) pa_nil))) (pe_callB (kIsi (K := K)) (by rfl) T.n_isinstance (by decide +kernel) (pa_cons (pv 1) (pa_cons (pe_bltn (v := .ty "bool") (by rfl) T.n_bool (by decide +kernel) rfl) pa_nil))) (nomark _))))) (pss_one (ps_ret pe_bl)) pss_nil)
  (pss_one (ps_ret (pe_and (pe_cmpR op_eq (pe_callB (kIsi (K := K)) (by rfl) T.n_isinstance (by decide +kernel) (pa_cons (pv 0) (pa_cons (pe_bltn (v := .ty "str") (by rfl) T.n_str (by decide +kernel) rfl) pa_nil))) (pe_callB (kIsi (K := K)) (by rfl) T.n_isinstance (by decide +kernel) (pa_cons (pv 1) (pa_cons (pe_bltn (v := .ty "str") (by rfl) T.n_str (by decide +kernel) rfl) pa_nil))) (nomark _)) (pe_and (pe_cmpR op_eq (pe_cmpR op_isN (pv 0) pe_non (nomark _)) (pe_cmpR op_isN (pv 1) pe_non (nomark _)) (nomark _)) (pe_one (pe_cmpR op_eq (pv 0) (pv 1) (nomark _)))))))))), ?_⟩
    obtain ⟨x, y, rfl, hx, hy⟩ := hd.two
    have nt : kitB (tyName d) "tuple" = some false := by cases d <;> first | rfl | decide +kernel | (simp [Sc] at sc)
    obtain ⟨b, hb⟩ : ∃ b, kitB (tyName d) "bool" = some b := by
      cases d with
      | none => exact ⟨false, by decide +kernel⟩
      | bool b => exact ⟨true, show kitB "bool" "bool" = some true by decide +kernel⟩
      | int i => exact ⟨false, show kitB "int" "bool" = some false by decide +kernel⟩
      | _ => simp [Sc] at sc
    have hb2 : kitB (tyName d) "str" = some false := by
      cases d with
      | none => decide +kernel
      | bool b => exact (show kitB "bool" "str" = some false by decide +kernel)
      | int i => exact (show kitB "int" "str" = some false by decide +kernel)
      | _ => simp [Sc] at sc
    have v0 : ∀ {H'}, Same H H' → EvD K (tVar 0) [some x, some y, none] H' d := fun s => evd_v 0 rfl (hx.mono s)
    have v1 : ∀ {H'}, Same H H' → EvD K (tVar 1) [some x, some y, none] H' d := fun s => evd_v 1 rfl (hy.mono s)
    have eqb : ∀ b : Bool, eqS (.bool b) (.bool b) = some true := fun b => by cases b <;> rfl
    have eqd : eqS d d = some true := by cases d <;> first | (simp [Sc] at sc; done) | simp [eqS]
    refine evq_ifn (b := false) (evb_test (evd_isi (v1 (Same.refl _)) nt)) (fun z => nomatch z) fun _ H1 s1 => ?_
    refine evq_ifn (b := false) (evb_is (evb_or (a := false) (b := false) (evb_test (evd_isi (v0 s1) nt)) fun _ => evb_is (evb_test (evd_ne (evd_isi (v0 s1) hb) (evd_isi (v1 s1) hb) (eqb b))) rfl) rfl) (fun z => nomatch z) fun _ H2 s2 => ?_
    have s12 := s1.trans s2
    refine evs_retD (K := K) (d := .bool true) (evd_is (evd_and (evd_eq (evd_isi (v0 s12) hb2) (evd_isi (v1 s12) hb2) (eqb false)) fun _ => evd_and (evd_eq (evd_isN (v0 s12)) (evd_isN (v1 s12)) (eqb _)) fun _ => evd_eq (v0 s12) (v1 s12) eqd) rfl) fun v H3 s3 p3 => q _ v H3 (s12.trans s3) p3 rfl
def spLCost (K : PySem.W.Frag) : Sp := spD K (fun ds => ∃ lt L w, ds = [ladD lt L, wordE w] ∧ Wf lt.length L ∧ ∀ a ∈ w, a < lt.length) (fun ds r => ∃ lt L w, ds = [ladD lt L, wordE w] ∧ r = tipD (L.cost w))
theorem ok_l_cost (T : Txt K mg) : FnOk P w K mg base CX0 1 T.A_l_cost.f T.A_l_cost.d ["ladder", "word"] (spLCost K) := by
  refine T.A_l_cost.F.ok sc_l_cost (fun vs H Q E h => spD_len (n := 2) (fun ds hp => ?_) h) (fun cdv A outer s H vs Q E hr h => ?_)
  · obtain ⟨_, _, _, rfl, _⟩ := hp; rfl
  · obtain ⟨ds, hd, ⟨lt, L, wd, rfl, wf, hw⟩, q⟩ := h
    refine ⟨_, ((pss_cons (ps_asg (pv 0) (kgTup (K := K) rfl (pgs_cons (pg_name (i := 2) sc_l_cost.nd rfl (.inl rfl)) (pgs_cons (pg_name (i := 3) sc_l_cost.nd rfl (.inl rfl)) (pgs_cons (pg_name (i := 4) sc_l_cost.nd rfl (.inl rfl)) (pgs_cons (pg_name (i := 5) sc_l_cost.nd rfl (.inl rfl)) pgs_nil))))))
  (pss_cons (ps_set (i := 6) sc_l_cost.nd rfl (.inl rfl) pe_int)
  (pss_cons (ps_for PassesOwn.never rfl (kiTup (K := K) (pv 1)) (pg_name (i := 7) sc_l_cost.nd rfl (.inl rfl))
    (pss_cons (ps_if (pt_cmpR op_isN (pe_ix (kIxT (K := K)) (pe_ix (kIxT (K := K)) (pv 4) (pv 6) (fun _ _ => rfl)) (pv 7) (fun _ _ => rfl)) pe_non (nomark _)) (pss_one (ps_ret pe_non)) pss_nil)
  (pss_one (ps_par (i := 3) (j := 6) (by rfl) sc_l_cost.nd rfl rfl (by decide) rfl rfl (pa_cons (pe_op op_add (pv 3) (pe_ix (kIxT (K := K)) (pe_ix (kIxT (K := K)) (pe_ix (kIxT (K := K)) (pv 4) (pv 6) (fun _ _ => rfl)) (pv 7) (fun _ _ => rfl)) pe_int (fun _ _ => rfl))) (pa_cons (pe_ix (kIxT (K := K)) (pe_ix (kIxT (K := K)) (pe_ix (kIxT (K := K)) (pv 4) (pv 6) (fun _ _ => rfl)) (pv 7) (fun _ _ => rfl)) pe_int (fun _ _ => rfl)) pa_nil)) (by rfl)))))
  (pss_one (ps_ret (pe_ifExp (pt_cmpR op_isN (pe_ix (kIxT (K := K)) (pv 5) (pv 6) (fun _ _ => rfl)) pe_non (nomark _)) pe_non (pe_op op_add (pv 3) (pe_ix (kIxT (K := K)) (pv 5) (pv 6) (fun _ _ => rfl)))))))))), ?_⟩
    obtain ⟨x0, x1, rfl, h0, h1⟩ := hd.two
    have q' : ∀ v H', Same H H' → Dq K H' v (tipD (L.cost wd)) → Q v H' := fun v H' s p => q _ v H' s p ⟨lt, L, wd, rfl, rfl⟩
    clear q
    refine evq_tup4 (evd_v 0 rfl h0) fun u2 u3 u4 u5 H1 s1 k2 k3 k4 k5 => ?_
    cases k3
    refine evq_setD (K := K) (d := .int 0) evd_int fun u6 H2 s2 p6 => ?_
    cases p6
    have s02 := s1.trans s2
    refine evq_for (evi_tup (evd_v 1 rfl (h1.mono s02))) (fun H3 i σ' H' => ∃ (x7 : Option V) (st : Nat) (tot : Int), σ' = [some x0, some x1, some u2, some (.int tot), some u4, some u5, some (.int (st : Nat)), x7] ∧ st < L.rows.length ∧ Same H3 H' ∧
      L.cost wd = (run (ent L.rows) (tip L.ends) st (wd.drop i)).map (tot + ·)) (fun H3 i σ' H' _ _ p => ?_) (fun H3 s3 => ⟨none, 0, L.first, rfl, wf.pos, Same.refl _, rfl⟩) (fun H3 i d σ' H' x H'' s3 hi p s4 dx => ?_) fun H3 σ' H' s3 p => ?_
    · obtain ⟨_, _, _, _, _, s, _⟩ := p
      exact .of s
    · obtain ⟨x7, st, tot, rfl, lst, s5, inv⟩ := p
      rw [List.getElem?_map] at hi
      obtain ⟨a, ha, rfl⟩ : ∃ a, wd[i]? = some a ∧ d = .int (a : Nat) := by
        cases e : wd[i]? with
        | none => rw [e] at hi; cases hi
        | some a => rw [e] at hi; exact ⟨a, rfl, (Option.some.inj hi).symm⟩
      cases dx
      have hal : a < lt.length := hw a (List.mem_of_getElem? ha)
      obtain ⟨r, hr1, hr2, hr3⟩ := rows_ent wf lst hal
      have sH := s02.trans (s3.trans (s5.trans s4))
      have hdrop : wd.drop i = a :: wd.drop (i + 1) := by
        have hil := (List.getElem?_eq_some_iff.mp ha).1
        rw [List.drop_eq_getElem_cons hil]
        congr 1
        rw [List.getElem?_eq_getElem hil] at ha
        exact Option.some.inj ha
      have k4' := k4.mono (s2.trans (s3.trans (s5.trans s4)))
      have ev : EvD K (tOp (rIxT K) (tOp (rIxT K) (tVar 4) (tVar 6)) (tVar 7)) [some x0, some x1, some u2, some (.int tot), some u4, some u5, some (.int (st : Nat)), some (.int (a : Nat))] H'' (entD (ent L.rows st a)) :=
        evd_ixT (i := a) (evd_ixT (i := st) (ds := L.rows.map rowD) (evd_v 4 rfl k4') (evd_v 6 rfl (.int _)) (f := .tuple (r.map entD)) (by rw [List.getElem?_map, hr1]; rfl)) (evd_v 7 rfl (.int _)) (by rw [List.getElem?_map, hr2]; rfl)
      cases e : ent L.rows st a with
      | none =>
        rw [e] at ev
        refine evq_ifn (b := true) (evb_test (evd_isN ev)) (fun _ H4 s6 => ?_) fun z => nomatch z
        refine evs_retD (K := K) (d := .none) evd_non fun v H5 s7 p7 => q' v H5 ((sH.trans s6).trans s7) ?_
        rw [inv, hdrop, run_none e]
        exact p7
      | some pt =>
        obtain ⟨pr, t⟩ := pt
        rw [e] at ev
        refine evq_ifn (b := false) (evb_test (evd_isN ev)) (fun z => nomatch z) fun _ H4 s6 => ?_
        have ev4 := ev.mono s6
        refine evs_parA (eva_cons (evd_ar (K := K) (g := fun i j => i + j) (evd_v 3 rfl (.int tot)) (evd_ixT (i := 0) ev4 evd_int rfl)) (eva_cons (evd_ixT (i := 1) ev4 evd_int rfl) eva_nil)) fun y z H5 s7 ky kz => ?_
        cases ky
        cases kz
        refine ⟨some (.int (a : Nat)), t, tot + pr, rfl, wf.to st a pr t e, ((s5.trans s4).trans s6).trans s7, ?_⟩
        rw [inv, hdrop, run_some e, Option.map_map]
        congr 1
        funext c
        show tot + (pr + c) = tot + pr + c
        omega
    · obtain ⟨x7, st, tot, rfl, lst, s5, inv⟩ := p
      have sH := s02.trans (s3.trans s5)
      have k5' := k5.mono (s2.trans (s3.trans s5))
      have hel : st < L.ends.length := by rw [wf.len]; exact lst
      rw [List.length_map, List.drop_length, run_nil] at inv
      have et : tip L.ends st = L.ends[st] := by unfold tip; rw [List.getElem?_eq_getElem hel]; rfl
      have ev : ∀ H2, Same H' H2 → EvD K (tOp (rIxT K) (tVar 5) (tVar 6)) [some x0, some x1, some u2, some (.int tot), some u4, some u5, some (.int (st : Nat)), x7] H2 (tipD (tip L.ends st)) := fun H2 s =>
        evd_ixT (i := st) (ds := L.ends.map tipD) (evd_v 5 rfl (k5'.mono s)) (evd_v 6 rfl (.int _)) (by rw [List.getElem?_map, List.getElem?_eq_getElem hel, et]; rfl)
      refine evs_ret (P := fun r => r = tipD (L.cost wd)) (evp_if (b := isNone (tipD (tip L.ends st))) (evb_test (evd_isN (ev H' (Same.refl _)))) (fun hb => ?_) fun hb => ?_) fun v H6 r s6 p6 e6 => q' v H6 (sH.trans s6) (e6 ▸ p6)
      · cases k : tip L.ends st with
        | none =>
          rw [inv, k]
          exact evd_non
        | some c => rw [k] at hb; cases hb
      · cases k : tip L.ends st with
        | none => rw [k] at hb; cases hb
        | some c =>
          have e2 := ev H' (Same.refl _)
          rw [k] at e2
          rw [inv, k]
          exact evd_ar (evd_v 3 rfl (.int _)) e2
def spWords (K : PySem.W.Frag) : Sp := fun vs H Q _ => ∃ (x : V) (lt : List Str), vs = [x, .int 4] ∧ Dq K H x (letD lt) ∧ lt.length ≤ 2 ∧ ∀ p xs ds H', H p = none → Same H H' → H' p = some (.lst xs) → DqAll K H' xs ds → (∀ d ∈ ds, IsWord lt.length 4 d) → ds.length ≤ 100 → Q (.ref p) H'
theorem ok_l_words (T : Txt K mg) : FnOk P w K mg base CX0 1 T.A_l_words.f T.A_l_words.d ["letters", "most"] (spWords K) := by
  refine T.A_l_words.F.ok sc_l_words (fun vs H Q E h => ?_) (fun cdv A outer s H vs Q E hr h => ?_)
  · obtain ⟨_, _, rfl, _⟩ := h; rfl
  · obtain ⟨x, lt, rfl, hx, hl, q⟩ := h
    refine ⟨_, ((pss_cons (ps_par (i := 2) (j := 3) (by rfl) sc_l_words.nd rfl rfl (by decide) rfl rfl (pa_cons (pe_lst (pa_cons (pe_tup pa_nil) pa_nil)) (pa_cons (pe_lst (pa_cons (pe_tup pa_nil) pa_nil)) pa_nil)) (by rfl))
  (pss_cons (ps_for PassesOwn.never rfl (pi_range1 rfl T.n_range (pa_cons (pv 1) pa_nil)) (pg_name (i := 4) sc_l_words.nd rfl (.inl rfl))
    (pss_cons (ps_set (i := 5) sc_l_words.nd rfl (.inl rfl) (pe_lst pa_nil))
  (pss_cons (ps_for PassesOwn.never rfl (kiList (K := K) (pv 3)) (pg_name (i := 6) sc_l_words.nd rfl (.inr rfl))
    (pss_one (ps_expr (pe_bm PySem.F.plainAttrs_list PySem.F.slot_list_extend PySem.F.type_list_extend mt_extend (pv 5) (pa_cons (pe_lc (own := [("letter", 7)]) (g := gName 7) (tt := tYes) rfl sc_l_words.nd (pi_range1 rfl T.n_range (pa_cons (pe_callB (kLen (K := K)) (by rfl) T.n_len (by decide +kernel) (pa_cons (pv 0) pa_nil)) pa_nil)) (blkOk_by (own := [("letter", 7)]) (N := ["letters", "most", "found", "now", "k", "later", "word", "letter"]) (sc := defScope s_l_words) (by decide +kernel)) (fun _ _ _ _ _ => (pg_name (i := 7) sc_l_words.nd rfl (.inl rfl))) (fun _ _ _ _ _ => pts_nil) (fun _ _ _ _ _ => (pe_op (kCatT (K := K)) (pv 6) (pe_tup (pa_cons (pv 7) pa_nil))))) pa_nil)))))
  (pss_one (ps_par (i := 2) (j := 3) (by rfl) sc_l_words.nd rfl rfl (by decide) rfl rfl (pa_cons (pe_op op_cat (pv 2) (pv 5)) (pa_cons (pv 5) pa_nil)) (by rfl))))))
  (pss_one (ps_ret (pv 2)))))), ?_⟩
    refine evq_parL ?_
    refine (evl_lst (K := K) (eva_cons (evd_tup eva_nil (by simp)) eva_nil) (by simp)) H (Same.refl _) _ fun p1 xs1 H1 hp1 s1 e1 d1 => ?_
    refine (evl_lst (K := K) (eva_cons (evd_tup eva_nil (by simp)) eva_nil) (by simp)) H1 (Same.refl _) _ fun p2 xs2 H2 hp2 s2 e2 d2 => ?_
    refine ⟨_, _, rfl, ?_⟩
    have e1' := s2 _ _ e1
    have w0 : ∀ d ∈ [PyData.tuple []], IsWord lt.length 0 d := fun d hd => by
      simp at hd
      exact ⟨[], hd, by simp, fun a h => by simp at h⟩
    refine evq_for (K := K) (evi_range1 (evd_v 1 rfl (.int ((4 : Nat) : Int))) (by decide)) (fun Hb i σ' H' => ∃ (pf pn : Addr) (xf xn : List V) (df dn : List PyData) (x4 x5 x6 : Option V), σ' = [some x, some (.int 4), some (.ref pf), some (.ref pn), x4, x5, x6, none] ∧ Same Hb H' ∧ H pf = none ∧ H' pf = some (.lst xf) ∧ DqAll K H' xf df ∧ H' pn = some (.lst xn) ∧ DqAll K H' xn dn ∧
      (∀ d ∈ df, IsWord lt.length i d) ∧ (∀ d ∈ dn, IsWord lt.length i d) ∧ dn.length ≤ 2 ^ i ∧ df.length ≤ 2 ^ (i + 1)) (fun Hb i σ' H' _ _ ⟨_, _, _, _, _, _, _, _, _, _, s, _⟩ => .of s)
      (fun Hb sb => ⟨p1, p2, xs1, xs2, _, _, none, none, none, rfl, Same.refl _, hp1, sb _ _ e1', (d1.mono s2).mono sb, sb _ _ e2, d2.mono sb, w0, w0, by simp, by simp⟩) (fun Hb i d σ' H' xv H'' sb hd ⟨pf, pn, xf, xn, df, dn, x4, x5, x6, eσ, t1, t2, t3, t4, t5, t6, t7, t8, t9, t10⟩ s3 dx => ?_) fun Hb σ' H' sb ⟨pf, pn, xf, xn, df, dn, x4, x5, x6, eσ, t1, t2, t3, t4, t5, t6, t7, t8, t9, t10⟩ => ?_
    · subst eσ
      have hi : i < 4 := by
        have := (List.getElem?_eq_some_iff.mp hd).1
        simpa [nats] using this
      have b16 : dn.length ≤ 16 := Nat.le_trans t9 (Nat.pow_le_pow_right (by decide) (show i ≤ 4 by omega))
      have b32 : df.length ≤ 32 := Nat.le_trans t10 (Nat.pow_le_pow_right (by decide) (show i + 1 ≤ 5 by omega))
      have f3 := s3 _ _ t3
      have f5 := s3 _ _ t5
      refine evq_setL (K := K) (ds := []) (evl_lst eva_nil (by simp)) fun p5 xs5 H4 hp5 s4 e5 d5 => ?_
      cases d5
      have hx4 := hx.mono (s1.trans (s2.trans (sb.trans (t1.trans s3))))
      refine evq_for (K := K) (evi_listF (.inl (.inl (s4 _ _ f5))) (((t6.mono s3).mono s4)) (evr_v 3 rfl)) (fun _ j σ' H' => ∃ (x6 : Option V) (acc : List V) (da : List PyData), σ' = [some x, some (.int 4), some (.ref pf), some (.ref pn), some xv, some (.ref p5), x6, none] ∧ Same H'' H' ∧ H' p5 = some (.lst acc) ∧ DqAll K H' acc da ∧ (∀ d ∈ da, IsWord lt.length (i + 1) d) ∧ da.length ≤ 2 * j)
        (fun _ j σ' H' _ _ ⟨_, _, _, _, s, _⟩ => ⟨.inl (.inl (s _ _ f5)), (t6.mono s3).mono s⟩) (fun Hc sc => ⟨x6, [], [], rfl, s4.trans sc, sc _ _ e5, .nil, (fun d h => by simp at h), by simp⟩) (fun Hc j d σ' H' xw H5 sc hd ⟨y6, acc, da, eσ, u1, u2, u3, u4, u5⟩ s5 dx => ?_) fun Hc σ' H' sc ⟨y6, acc, da, eσ, u1, u2, u3, u4, u5⟩ => ?_
      · subst eσ
        obtain ⟨ww, rfl, wl, wa⟩ := t8 d (List.mem_of_getElem? hd)
        have hj := (List.getElem?_eq_some_iff.mp hd).1
        have hx5 := hx4.mono (u1.trans s5)
        have comp : EvL K (tLc (iRng1 (tCons (tCB (rLenS K) (tCons (tVar 0) tNil)) tNil)) (gName 7) tYes (tOp (rCatA K) (tVar 6) (tTup (tCons (tVar 7) tNil))) [7]) [some x, some (.int 4), some (.ref pf), some (.ref pn), some xv, some (.ref p5), some xw, none] H5 ((nats lt.length).map fun d => match d with | .int a => wordE (ww ++ [a.toNat]) | _ => .none) := by
          refine evl_map (i := 7) (evi_range1 (evd_is (evd_lenT (evd_v 0 rfl hx5)) (by rw [List.length_map])) (by omega)).same (by simp [nats]; omega) _ fun d xe H6 hd s6 dxe => ?_
          obtain ⟨a, ha, rfl⟩ := List.mem_map.mp hd
          cases dxe
          show EvD K _ _ H6 (wordE (ww ++ [((a : Nat) : Int).toNat]))
          rw [Int.toNat_natCast]
          refine evd_is (evd_cat (K := K) (evd_v 6 rfl (dx.mono s6)) (evd_tup (eva_cons (evd_v 7 rfl (.int (a : Nat))) eva_nil) (by simp)) (by simp; omega)) ?_
          unfold wordE
          rw [List.map_append]; rfl
        have la : acc.length ≤ 100 := by rw [u3.length]; omega
        have ln : (nats lt.length).length = lt.length := by simp [nats]
        refine evs_extend (K := K) (s5 _ _ u2) (by rw [List.length_map, ln]; omega) (evr_v 5 rfl) comp fun zs H6 s6 p6 => ?_
        have g2 := s6 _ _ (s5 _ _ u2)
        have hp5' : H'' p5 = none := hp5
        refine ⟨_, acc ++ zs, _, rfl, same_mut (u1.trans (s5.trans s6)) hp5', upd_same, (((u3.mono s5).mono s6).kp (.updL g2)).append (p6.kp (.updL g2)), fun d hd => ?_, ?_⟩
        · rcases List.mem_append.mp hd with h | h
          · exact u4 d h
          · obtain ⟨e, he, rfl⟩ := List.mem_map.mp h
            obtain ⟨a, ha, rfl⟩ := List.mem_map.mp he
            have ha := List.mem_range.mp ha
            refine ⟨ww ++ [a], by show wordE (ww ++ [((a : Nat) : Int).toNat]) = _; rw [Int.toNat_natCast], by simp; omega, fun l hl => ?_⟩
            rcases List.mem_append.mp hl with h | h
            · exact wa l h
            · simp at h; omega
        · rw [List.length_append, List.length_map, ln]
          omega
      · subst eσ
        have w1 : ∀ d ∈ df ++ da, IsWord lt.length (i + 1) d := fun d hd => by
          rcases List.mem_append.mp hd with h | h
          · obtain ⟨v, e, l, a⟩ := t7 d h
            exact ⟨v, e, by omega, a⟩
          · exact u4 d h
        have hdl : da.length ≤ 2 * dn.length := u5
        have f3' := u1 _ _ f3
        refine evs_parL ?_
        refine (evl_cat (K := K) (evls_v f3' ((t4.mono s3).mono u1) (evr_v 2 rfl)) (evls_v u2 u3 (evr_v 5 rfl)) (by omega)) H' (Same.refl _) _ fun p8 xs8 H8 hp8 s8 e8 d8 => ?_
        refine ⟨_, rfl, _, _, rfl, p8, p5, xs8, acc, _, _, _, _, _, rfl, t1.trans (s3.trans (u1.trans s8)), ?_, e8, d8, s8 _ _ u2, u3.mono s8, w1, u4, ?_, ?_⟩
        · exact (s1.trans (s2.trans (sb.trans (t1.trans (s3.trans u1))))).free hp8
        · rw [Nat.pow_succ]; omega
        · rw [List.length_append, Nat.pow_succ]
          have : 2 ^ (i + 1) = 2 * 2 ^ i := by rw [Nat.pow_succ]; omega
          omega
    · subst eσ
      have n4 : (nats 4).length = 4 := by simp [nats]
      rw [n4] at t7 t10
      refine ⟨_, rfl, q pf xf df H' t2 (s1.trans (s2.trans (sb.trans t1))) t3 t4 t7 (by omega)⟩
end
end K96

set_option maxRecDepth 100000
set_option maxHeartbeats 2000000
/-! _law_ladder -/
namespace K96
open PySem PySem.Spec PyProof.Rows L2 KD Ladm
def MonoE (te : TE) : Prop := ∀ σ H (Q1 Q2 : VK), (∀ a b, Q1 a b → Q2 a b) → te σ H Q1 → te σ H Q2
def MonoA (ta : TA) : Prop := ∀ σ H (Q1 Q2 : List V → Hp → Prop), (∀ a b, Q1 a b → Q2 a b) → ta σ H Q1 → ta σ H Q2
def MonoT (tt : TT) : Prop := ∀ σ H (Q1 Q2 : Bool → Hp → Prop), (∀ a b, Q1 a b → Q2 a b) → tt σ H Q1 → tt σ H Q2
def MonoR (r : R2) : Prop := ∀ x y H (Q1 Q2 : VK), (∀ a b, Q1 a b → Q2 a b) → r x y H Q1 → r x y H Q2
theorem mono_v (i : Nat) : MonoE (tVar i) := fun _ _ _ _ h ⟨v, e, q⟩ => ⟨v, e, h _ _ q⟩
theorem mono_c (v : V) : MonoE (tC v) := fun _ _ _ _ h q => h _ _ q
theorem mono_op {r : R2} {ta tb : TE} (hr : MonoR r) (ha : MonoE ta) (hb : MonoE tb) : MonoE (tOp r ta tb) := fun _ _ _ _ h q => ha _ _ _ _ (fun _ _ q => hb _ _ _ _ (fun _ _ q => hr _ _ _ _ _ h q) q) q
theorem mono_I0 (f : Int → Int → V) : MonoR (rI0 f) := fun _ _ _ _ _ h ⟨i, j, a, b, q⟩ => ⟨i, j, a, b, h _ _ q⟩
theorem mono_eq : MonoR rEq := fun _ _ _ _ _ h ⟨a, q⟩ => ⟨a, h _ _ q⟩
theorem mono_test {te : TE} (he : MonoE te) : MonoT (tTest te) := fun _ _ _ _ h q => he _ _ _ _ (fun _ _ ⟨b, e, q⟩ => ⟨b, e, h _ _ q⟩) q
theorem mono_if {tt : TT} {ta tb : TE} (ht : MonoT tt) (ha : MonoE ta) (hb : MonoE tb) : MonoE (tIf tt ta tb) := fun σ H Q1 Q2 h q => ht _ _ _ _ (fun b H1 q => by
  cases b with
  | true => exact iteT (ha _ _ _ _ h (by simpa using q))
  | false => exact iteF (hb _ _ _ _ h (by simpa using q))) q
theorem mono_nil : MonoA tNil := fun _ _ _ _ h q => h _ _ q
theorem mono_cons {te : TE} {ta : TA} (he : MonoE te) (ha : MonoA ta) : MonoA (tCons te ta) := fun _ _ _ _ h q => he _ _ _ _ (fun _ _ q => ha _ _ _ _ (fun _ _ q => h _ _ q) q) q
theorem mono_tup {ta : TA} (ha : MonoA ta) : MonoE (tTup ta) := fun _ _ _ _ h q => ha _ _ _ _ (fun _ _ ⟨l, q⟩ => ⟨l, fun p hp => h _ _ (q p hp)⟩) q
theorem mono_pick {i : Nat} {te : TE} {E : XK} (he : MonoE te) : MonoE (tCall spPick [] E (tCons (tVar i) (tCons te tNil))) := fun _ _ _ _ h q => pick_mono he _ _ _ _ h q
section
variable {K : PySem.W.Frag} {H : Hp} {σ : L2.St} {te ta tb : TE} {D : Ends} {u : TS} {E : XK} {Q : VK}
theorem evq_asg {i : Nat} (h : te σ H fun v H1 => u D (σ.set i (some v)) H1) : tSeq (tAsg te (gName i)) u D σ H := h
theorem tup2_of (h : ta σ H fun v H1 => tb σ H1 fun v2 H2 => [v, v2].length ≤ sizeLine ∧ ∀ p, H2 p = none → Q (.ref p) (upd H2 p (.tup [v, v2]))) : tTup (tCons ta (tCons tb tNil)) σ H Q := h
theorem if_pick {b : Sack} {k many i : Nat} (h0 : σ[i]? = some (some (.ref b.a))) (hb : Bag H b k) (h : EvD K te σ H (.int (many : Nat))) (m0 : 0 < many) (m1 : many ≤ 1000) (hk : k ≤ 1000000000)
    (q : ∀ (g : Nat) H', g < many → Fr b.a H H' → Bag H' b (k + 1) → (0 < g → ta σ H' Q) ∧ (g = 0 → tb σ H' Q)) : tIf (tTest (tOp (rI0 fun i j => .bl (decide (i > j))) (tCall spPick [] E (tCons (tVar i) (tCons te tNil))) (tC (.int 0)))) ta tb σ H Q :=
  call_pick h0 hb h m0 m1 hk fun g H' hg f bb => ⟨(g : Int), 0, rfl, rfl, decide ((g : Int) > 0), rfl, by
    show if decide ((g : Int) > 0) = true then ta σ H' Q else tb σ H' Q
    by_cases c : 0 < g
    · rw [if_pos (decide_eq_true (by omega))]
      exact (q g H' hg f bb).1 c
    · rw [if_neg (fun z => c (by have := of_decide_eq_true z; omega))]
      exact (q g H' hg f bb).2 (by omega)⟩
theorem ifeq_pick {b : Sack} {k many i : Nat} (h0 : σ[i]? = some (some (.ref b.a))) (hb : Bag H b k) (h : EvD K te σ H (.int (many : Nat))) (m0 : 0 < many) (m1 : many ≤ 1000) (hk : k ≤ 1000000000)
    (q : ∀ (g : Nat) H', g < many → Fr b.a H H' → Bag H' b (k + 1) → (g = 0 → ta σ H' Q) ∧ (0 < g → tb σ H' Q)) : tIf (tTest (tOp rEq (tCall spPick [] E (tCons (tVar i) (tCons te tNil))) (tC (.int 0)))) ta tb σ H Q :=
  call_pick h0 hb h m0 m1 hk fun g H' hg f bb => ⟨rfl, decide (V.int (g : Int) = V.int 0), rfl, by
    show if decide (V.int (g : Int) = V.int 0) = true then ta σ H' Q else tb σ H' Q
    by_cases c : g = 0
    · rw [if_pos (decide_eq_true (by rw [c]; rfl))]
      exact (q g H' hg f bb).1 c
    · rw [if_neg (by
        rw [decide_eq_true_eq]
        intro z
        have := V.int.inj z
        omega)]
      exact (q g H' hg f bb).2 (by omega)⟩
theorem evs_appendI {j : Nat} {p : Addr} {xs : List V} (hv : σ[j]? = some (some (.ref p))) (hp : H p = some (.lst xs)) (h : te σ H fun y H2 => rAppend (.ref p) [y] H2 fun _ H3 => D.nx σ H3) : tDrop (tBM K "list" rAppend (tVar j) (tCons te tNil)) D σ H := ⟨.ref p, hv, .inl ⟨rfl, xs, .inl (.inl hp)⟩, h⟩
end
def GoodRow (m n : Nat) (r : List Ent) : Prop := r.length = m ∧ ∀ p t, some (p, t) ∈ r → 0 ≤ p ∧ p ≤ 3 ∧ t < n
section
variable {P : Program} {w : World} {K : PySem.W.Frag} {mg : Str → Option Value} {base : Heap}
def spLLadder (K : PySem.W.Frag) : Sp := fun vs H Q _ => ∃ (b : Sack) (x : V) (lt : List Str) (n k : Nat), vs = [.ref b.a, x, .int (n : Nat)] ∧ Bag H b k ∧ k ≤ 1000000 ∧ Dq K H x (letD lt) ∧ lt.length ≤ 2 ∧ 1 ≤ n ∧ n ≤ 4 ∧
  ∀ L v H', Wf lt.length L → L.rows.length = n → Bnd 3 L → Fr b.a H H' → Bag H' b (k + 100) → Dq K H' v (ladD lt L) → Q v H'
theorem ok_l_ladder (T : Txt K mg) : FnOk P w K mg base CX0 2 T.A_l_ladder.f T.A_l_ladder.d ["bag", "letters", "states"] (spLLadder K) := by
  refine T.A_l_ladder.F.ok sc_l_ladder (fun vs H Q E h => ?_) (fun cdv A outer s H vs Q E hr h => ?_)
  · obtain ⟨_, _, _, _, _, rfl, _⟩ := h; rfl
  · obtain ⟨b, x, lt, n, k, rfl, hb, hk, hx, l2, n1, n4, q⟩ := h
    refine ⟨_, ((pss_cons (ps_par (i := 3) (j := 4) (by rfl) sc_l_ladder.nd rfl rfl (by decide) rfl rfl (pa_cons (pe_lst pa_nil) (pa_cons (pe_lst pa_nil) pa_nil)) (by rfl))
  (pss_cons (ps_for PassesOwn.never rfl (pi_range1 rfl T.n_range (pa_cons (pv 2) pa_nil)) (pg_name (i := 5) sc_l_ladder.nd rfl (.inl rfl))
    (pss_cons (ps_setLc (i := 6) (own := [("letter", 7)]) (g := gName 7) (tt := tYes) rfl sc_l_ladder.nd rfl rfl (sw_true rfl rfl rfl (by decide +kernel)) (kiTup (K := K) (pv 1)) (blkOk_by (own := [("letter", 7)]) (N := ["bag", "letters", "states", "rows", "ends", "p", "row", "letter"]) (sc := defScope s_l_ladder) (by decide +kernel)) (fun _ _ _ _ _ => (pg_name (i := 7) sc_l_ladder.nd rfl (.inl rfl))) (fun _ _ _ _ _ => pts_nil) (fun _ _ _ _ _ => (pe_ifExp (pt_cmpR op_gt (pe_call (ok_l_pick T) (hr.mono (by decide)) (by rfl) T.A_l_pick.g T.A_l_pick.F.kp T.A_l_pick.b .nil pass0 (pa_cons (pv 0) (pa_cons pe_int pa_nil))) pe_int (nomark _)) (pe_tup (pa_cons (pe_call (ok_l_pick T) (hr.mono (by decide)) (by rfl) T.A_l_pick.g T.A_l_pick.F.kp T.A_l_pick.b .nil pass0 (pa_cons (pv 0) (pa_cons pe_int pa_nil))) (pa_cons (pe_call (ok_l_pick T) (hr.mono (by decide)) (by rfl) T.A_l_pick.g T.A_l_pick.F.kp T.A_l_pick.b .nil pass0 (pa_cons (pv 0) (pa_cons (pv 2) pa_nil))) pa_nil))) pe_non)))
  (pss_cons (ps_expr (pe_bm PySem.F.plainAttrs_list PySem.F.slot_list_append PySem.F.type_list_append mt_append (pv 3) (pa_cons (pe_callTy (kTup (K := K)) (by rfl) T.n_tuple (by decide +kernel) (pa_cons (pv 6) pa_nil)) pa_nil)))
  (pss_one (ps_expr (pe_bm PySem.F.plainAttrs_list PySem.F.slot_list_append PySem.F.type_list_append mt_append (pv 4) (pa_cons (pe_ifExp (pt_cmpR op_eq (pe_call (ok_l_pick T) (hr.mono (by decide)) (by rfl) T.A_l_pick.g T.A_l_pick.F.kp T.A_l_pick.b .nil pass0 (pa_cons (pv 0) (pa_cons pe_int pa_nil))) pe_int (nomark _)) (pe_call (ok_l_pick T) (hr.mono (by decide)) (by rfl) T.A_l_pick.g T.A_l_pick.F.kp T.A_l_pick.b .nil pass0 (pa_cons (pv 0) (pa_cons pe_int pa_nil))) pe_non) pa_nil)))))))
  (pss_one (ps_ret (pe_tup (pa_cons (pv 1) (pa_cons (pe_call (ok_l_pick T) (hr.mono (by decide)) (by rfl) T.A_l_pick.g T.A_l_pick.F.kp T.A_l_pick.b .nil pass0 (pa_cons (pv 0) (pa_cons pe_int pa_nil))) (pa_cons (pe_callTy (kTup (K := K)) (by rfl) T.n_tuple (by decide +kernel) (pa_cons (pv 3) pa_nil)) (pa_cons (pe_callTy (kTup (K := K)) (by rfl) T.n_tuple (by decide +kernel) (pa_cons (pv 4) pa_nil)) pa_nil)))))))))), ?_⟩
    refine evq_parL ?_
    refine (evl_lst (K := K) (ds := []) eva_nil (by simp)) H (Same.refl _) _ fun pr xs1 H1 hpr s1 e1 d1 => ?_
    refine (evl_lst (K := K) (ds := []) eva_nil (by simp)) H1 (Same.refl _) _ fun pe xs2 H2 hpe s2 e2 d2 => ?_
    cases d1
    cases d2
    refine ⟨_, _, rfl, ?_⟩
    have e1' := s2 _ _ e1
    have hpe0 : H pe = none := s1.free hpe
    have nre : pr ≠ pe := fun z => by rw [← z, e1] at hpe; cases hpe
    have nra := (hb.ne hpr).1
    have nea := (hb.ne hpe0).1
    have s02 := s1.trans s2
    refine evq_for (K := K) (evi_range1 (evd_v 2 rfl (.int (n : Nat))) (by omega)) (fun Hb i σ' H' => ∃ (x5 x6 : Option V) (accR : List V) (rows : Rows) (tips : Tips), σ' = [some (.ref b.a), some x, some (.int (n : Nat)), some (.ref pr), some (.ref pe), x5, x6, none] ∧ Fr b.a H H' ∧ Kp Hb H' ∧ Bag H' b (k + 10 * i) ∧
      H' pr = some (.lst accR) ∧ DqAll K H' accR (rows.map rowD) ∧ H' pe = some (.lst (tips.map tipV)) ∧ rows.length = i ∧ tips.length = i ∧ (∀ r ∈ rows, GoodRow lt.length n r) ∧ ∀ c, some c ∈ tips → 0 ≤ c ∧ c ≤ 3) (fun Hb i σ' H' _ _ ⟨_, _, _, _, _, _, _, kp, _⟩ => kp)
      (fun Hb sb => ⟨none, none, [], [], [], rfl, Fr.of (s02.trans sb), Kp.refl _, (hb.mono (s02.trans sb)).more (by omega), sb _ _ e1', .nil, sb _ _ e2, rfl, rfl, (fun r h => by simp at h), fun c h => by simp at h⟩)
      (fun Hb i d σ' H' xv H'' sb hd ⟨x5, x6, accR, rows, tips, eσ, f, kp, bg, eR, dR, eE, lr, le, gr, gt⟩ s3 dx => ?_) fun Hb σ' H' sb ⟨x5, x6, accR, rows, tips, eσ, f, kp, bg, eR, dR, eE, lr, le, gr, gt⟩ => ?_
    · subst eσ
      have hi : i < n := by
        have := (List.getElem?_eq_some_iff.mp hd).1
        simpa [nats] using this
      have f3 := f.trans (.of s3)
      have b3 := bg.mono s3
      have hx3 := hx.kp (hb.kp b3 f3)
      have ltl : (lt.map PyData.str).length = lt.length := List.length_map ..
      refine evq_asg ?_
      refine lc_inv (K := K) (evi_tup (te := tVar 1) (evd_v 1 rfl hx3)) (by rw [ltl]; omega) (fun Hc D j acc H4 => ∃ es : List Ent, DqAll K H4 acc (es.map entD) ∧ es.length = j ∧ (∀ p t, some (p, t) ∈ es → 0 ≤ p ∧ p ≤ 3 ∧ t < n) ∧ Fr b.a H'' H4 ∧ Kp Hc H4 ∧ Bag H4 b (k + 10 * i + 3 * j))
        (fun Hc D j acc H4 _ _ _ ⟨_, _, _, _, _, kp, _⟩ => kp) (fun Hc D sc hD => ⟨[], .nil, rfl, (fun p t h => by simp at h), (Fr.of sc).trans (.of (same_new hD)), .of (same_new hD), (b3.mono sc).mono (same_new hD)⟩)
        (fun Hc D j d acc H4 xe H5 sc hD hd eD ⟨es, de, el, ge, f4, kp4, b4⟩ s5 dxe => ?_) (fun _ _ _ _ _ k h => k _ _ h) (fun _ _ _ _ k h => k _ _ h)
        (mono_if (mono_test (mono_op (mono_I0 _) (mono_pick (mono_c _)) (mono_c _))) (mono_tup (mono_cons (mono_pick (mono_c _)) (mono_cons (mono_pick (mono_v _)) mono_nil))) (mono_c _))
        (fun Hc D acc H4 sc hD eD ⟨es, de, el, ge, f4, kp4, b4⟩ => ?_)
      · have hj : j < lt.length := by
          have := (List.getElem?_eq_some_iff.mp hd).1
          rwa [ltl] at this
        have hD3 : H'' D = none := sc.free hD
        have nD := (b3.ne hD3).1
        refine ⟨rfl, ?_⟩
        have b5 := b4.mono s5
        have eD5 := s5 _ _ eD
        have fin : ∀ (e : Ent) (v : V) (H6 : Hp), Fr b.a H5 H6 → Bag H6 b (k + 10 * i + 3 * (j + 1)) → Dq K H6 v (entD e) → (∀ p t, e = some (p, t) → 0 ≤ p ∧ p ≤ 3 ∧ t < n) → H6 D = some (.lst acc) ∧ ∃ es : List Ent, DqAll K (upd H6 D (.lst (acc ++ [v]))) (acc ++ [v]) (es.map entD) ∧ es.length = j + 1 ∧ (∀ p t, some (p, t) ∈ es → 0 ≤ p ∧ p ≤ 3 ∧ t < n) ∧
            Fr b.a H'' (upd H6 D (.lst (acc ++ [v]))) ∧ Kp Hc (upd H6 D (.lst (acc ++ [v]))) ∧ Bag (upd H6 D (.lst (acc ++ [v]))) b (k + 10 * i + 3 * (j + 1)) := fun e v H6 f6 b6 dv ge' => by
          have eD6 := f6 D _ nD eD5
          have kp6 := b5.kp b6 f6
          refine ⟨eD6, es ++ [e], ?_, by simp [el], fun p t h => ?_, ((f4.trans (.of s5)).trans f6).mut hD3, ((kp4.trans (.of s5)).trans kp6).trans (.updL eD6), b3.mut b6 hD3⟩
          · rw [List.map_append]
            exact ((((de.mono s5).kp kp6)).kp (.updL eD6)).snoc (dv.kp (.updL eD6))
          · rcases List.mem_append.mp h with h | h
            · exact ge p t h
            · simp at h
              exact ge' p t h.symm
        refine if_pick (K := K) (many := 4) rfl b5 evd_int (by decide) (by decide) (by omega) fun g H6 hg f6 b6 => ⟨fun _ => ?_, fun _ => ?_⟩
        · refine tup2_of ?_
          refine call_pick (K := K) (many := 4) rfl b6 evd_int (by decide) (by decide) (by omega) fun g2 H7 hg2 f7 b7 => ?_
          refine call_pick (K := K) (many := n) rfl b7 (evd_v 2 rfl (.int (n : Nat))) (by omega) (by omega) (by omega) fun g3 H8 hg3 f8 b8 => ?_
          refine ⟨(by decide : 2 ≤ sizeLine), fun p hp => ?_⟩
          have s9 := same_new (o := .tup [.int (g2 : Nat), .int (g3 : Nat)]) hp
          exact fin (some ((g2 : Int), g3)) _ _ (f6.trans (f7.trans (f8.trans (.of s9)))) ((b8.mono s9).more (by omega)) (.tup (.inl (.inl upd_same)) (.cons (.int _) (.one (.int _)))) fun p t e => by cases e; omega
        · exact fin none .non H6 f6 (b6.more (by omega)) .non fun p t e => by cases e
      · rw [ltl] at el b4
        have hD3 : H'' D = none := sc.free hD
        have nD := (b3.ne hD3).1
        have kp5 := b3.kp b4 f4
        have eR5 := f4 pr _ nra (s3 _ _ eR)
        have eE5 := f4 pe _ nea (s3 _ _ eE)
        have dR5 := (dR.mono s3).kp kp5
        have la : accR.length ≤ 100 := by rw [dR.length, List.length_map]; omega
        refine evq_append (K := K) eR5 (by omega) (evr_v 3 rfl) (evd_tupleLs (.inl (.inl eD)) de (evr_v 6 rfl)) fun v H5 s5 p5 => ?_
        have eR6 := s5 _ _ eR5
        have f6 : Fr b.a H (upd H5 pr (.lst (accR ++ [v]))) := ((f3.trans f4).trans (.of s5)).mut hpr
        have b6 : Bag (upd H5 pr (.lst (accR ++ [v]))) b (k + 10 * i + 3 * lt.length) := hb.mut (b4.mono s5) hpr
        have kp6 : Kp H4 (upd H5 pr (.lst (accR ++ [v]))) := (Kp.of s5).trans (.updL eR6)
        have dR6 : DqAll K (upd H5 pr (.lst (accR ++ [v]))) (accR ++ [v]) ((rows ++ [es]).map rowD) := by
          rw [List.map_append]
          exact ((dR5.mono s5).kp (.updL eR6)).snoc (p5.kp (.updL eR6))
        have eE6 : (upd H5 pr (.lst (accR ++ [v]))) pe = some (.lst (tips.map tipV)) := by rw [upd_ne (Ne.symm nre)]; exact s5 _ _ eE5
        refine evs_appendI rfl eE6 ?_
        have fin : ∀ (c : Option Int) (H7 : Hp), Fr b.a (upd H5 pr (.lst (accR ++ [v]))) H7 → Bag H7 b (k + 10 * (i + 1)) → (∀ z, c = some z → 0 ≤ z ∧ z ≤ 3) → rAppend (.ref pe) [tipV c] H7 fun _ H8 => ∃ (x5 x6 : Option V) (accR : List V) (rows : Rows) (tips : Tips), [some (.ref b.a), some x, some (.int (n : Nat)), some (.ref pr), some (.ref pe), some xv, some (.ref D), none] = [some (.ref b.a), some x, some (.int (n : Nat)), some (.ref pr), some (.ref pe), x5, x6, none] ∧ Fr b.a H H8 ∧ Kp Hb H8 ∧ Bag H8 b (k + 10 * (i + 1)) ∧
            H8 pr = some (.lst accR) ∧ DqAll K H8 accR (rows.map rowD) ∧ H8 pe = some (.lst (tips.map tipV)) ∧ rows.length = i + 1 ∧ tips.length = i + 1 ∧ (∀ r ∈ rows, GoodRow lt.length n r) ∧ ∀ c, some c ∈ tips → 0 ≤ c ∧ c ≤ 3 := fun c H7 f7 b7 hc => by
          have eE7 := f7 pe _ nea eE6
          have kp7 := b6.kp b7 f7
          refine ⟨pe, tips.map tipV, tipV c, rfl, rfl, eE7, by rw [List.length_map, sizeLine_eq]; omega, some xv, some (.ref D), accR ++ [v], rows ++ [es], tips ++ [c], rfl, (f6.trans f7).mut hpe0, (((kp.trans (.of s3)).trans kp5).trans kp6).trans (kp7.trans (.updL eE7)), hb.mut b7 hpe0, ?_, (dR6.kp kp7).kp (.updL eE7), ?_, by simp [lr], by simp [le], fun r hr => ?_, fun z hz => ?_⟩
          · rw [upd_ne nre]
            exact f7 pr _ nra upd_same
          · rw [upd_same, List.map_append]; rfl
          · rcases List.mem_append.mp hr with h | h
            · exact gr r h
            · simp at h
              rw [h]
              exact ⟨el, ge⟩
          · rcases List.mem_append.mp hz with h | h
            · exact gt z h
            · simp at h
              exact hc z h.symm
        refine ifeq_pick (K := K) (many := 2) rfl b6 evd_int (by decide) (by decide) (by omega) fun g H7 hg f7 b7 => ⟨fun _ => ?_, fun _ => ?_⟩
        · refine call_pick (K := K) (many := 3) rfl b7 evd_int (by decide) (by decide) (by omega) fun g2 H8 hg2 f8 b8 => ?_
          exact fin (some (g2 : Int)) H8 (f7.trans f8) (b8.more (by omega)) fun z e => by cases e; omega
        · exact fin none H7 f7 (b7.more (by omega)) fun z e => by cases e
    · subst eσ
      have nn : (nats n).length = n := by simp [nats]
      rw [nn] at lr le bg
      have hx3 := hx.kp (hb.kp bg f)
      refine ⟨x, rfl, ?_⟩
      refine call_pick (K := K) (many := 3) rfl bg evd_int (by decide) (by decide) (by omega) fun g H3 hg f3 b3 => ?_
      have kp3 := bg.kp b3 f3
      have dT : DqAll K H3 (tips.map tipV) (tips.map tipD) := by
        clear gt le eE
        induction tips with
        | nil => exact .nil
        | cons c cs ih => exact .cons (tipV_dq c) ih
      refine (eva_cons (evd_tupleLs (K := K) (.inl (.inl (f3 pr _ nra eR))) (dR.kp kp3) (evr_v 3 rfl)) (eva_cons (evd_tupleLs (.inl (.inl (f3 pe _ nea eE))) dT (evr_v 4 rfl)) eva_nil)) H3 (Same.refl _) _ fun vs H4 s4 p4 => ?_
      obtain ⟨y, z, rfl, ky, kz⟩ := p4.two
      refine ⟨(by decide : 4 ≤ sizeLine), fun p hp => ?_⟩
      have s5 := same_new (o := .tup [x, .int (g : Nat), y, z]) hp
      refine q ⟨(g : Int), rows, tips⟩ _ _ ⟨?_, ?_, fun r hr => (gr r hr).1, fun s a p t e => ?_⟩ lr ⟨?_, ?_, fun r hr p t h => ?_, fun c hc => gt c hc⟩ (f.trans (f3.trans (.of (s4.trans s5)))) ((b3.mono (s4.trans s5)).more (by omega)) (.tup (.inl (.inl upd_same)) (.cons (((hx3.kp kp3).mono s4).mono s5) (.cons (.int _) (.cons (ky.mono s5) (.one (kz.mono s5))))))
      · show 0 < rows.length
        omega
      · show tips.length = rows.length
        omega
      · show t < rows.length
        rw [lr]
        have e : ent rows s a = some (p, t) := e
        unfold ent at e
        cases k1 : rows[s]? with
        | none => rw [k1] at e; simp at e
        | some r =>
          rw [k1] at e
          simp only [Option.getD_some] at e
          cases k2 : r[a]? with
          | none => rw [k2] at e; cases e
          | some y' =>
            rw [k2] at e
            have : y' = some (p, t) := e
            rw [this] at k2
            exact ((gr r (List.mem_of_getElem? k1)).2 p t (List.mem_of_getElem? k2)).2.2
      · show (0 : Int) ≤ (g : Int)
        omega
      · show (g : Int) ≤ 3
        omega
      · have := (gr r hr).2 p t h
        exact ⟨this.1, this.2.1⟩
end
end K96

/-! ladders made anew with the same costs: turned, moved -/
namespace Ladm
theorem sim_run {E E' : ES} {F F' : FS} {n : Nat} {φ : Nat → Nat} (h : ∀ s, s < n → ∀ a, E' (φ s) a = (E s a).map fun x => (x.1, φ x.2)) (hF : ∀ s, s < n → F' (φ s) = F s) (hin : ∀ s a p t, s < n → E s a = some (p, t) → t < n) :
    ∀ (w : List Nat) (s : Nat), s < n → run E' F' (φ s) w = run E F s w := by
  intro w
  induction w with
  | nil => intro s hs; exact hF s hs
  | cons a w ih =>
    intro s hs
    cases e : E s a with
    | none =>
      have e' : E' (φ s) a = none := by rw [h s hs a, e]; rfl
      rw [run_none e, run_none e']
    | some x =>
      obtain ⟨p, t⟩ := x
      have e' : E' (φ s) a = some (p, φ t) := by rw [h s hs a, e]; rfl
      rw [run_some e, run_some e', ih t (hin s a p t hs e)]
def flip (n i : Nat) : Nat := if i = 0 then 0 else n - i
theorem flip_lt {n i : Nat} (h : i < n) : flip n i < n := by unfold flip; split <;> omega
theorem flip_flip {n i : Nat} (h : i < n) : flip n (flip n i) = i := by
  unfold flip
  by_cases c : i = 0
  · simp [c]
  · rw [if_neg c, if_neg (by omega)]
    omega
def flipE (n : Nat) (e : Ent) : Ent := e.map fun x => (x.1, flip n x.2)
def turnL (m : Nat) (L : Lad) : Lad := ⟨L.first, ((List.range L.rows.length).map fun j => (L.rows.getD (flip L.rows.length j) []).map (flipE L.rows.length)) ++ [List.replicate m (some (1, 0))], ((List.range L.rows.length).map fun j => tip L.ends (flip L.rows.length j)) ++ [some 2]⟩
theorem turn_ent {m : Nat} {L : Lad} {s : Nat} (hs : s < L.rows.length) (a : Nat) : ent (turnL m L).rows s a = flipE L.rows.length (ent L.rows (flip L.rows.length s) a) := by
  have hf := flip_lt hs
  unfold ent turnL
  simp only
  rw [List.getElem?_append_left (by simpa using hs), List.getElem?_map, List.getElem?_range hs]
  simp only [Option.map_some, Option.getD_some]
  rw [List.getElem?_map, List.getD_eq_getElem?_getD]
  cases (L.rows[flip L.rows.length s]?.getD [])[a]? <;> rfl
theorem turn_tip {m : Nat} {L : Lad} {s : Nat} (hs : s < L.rows.length) : tip (turnL m L).ends s = tip L.ends (flip L.rows.length s) := by
  unfold turnL
  simp only
  show (_ : Option (Option Int)).getD none = _
  rw [List.getElem?_append_left (by simpa using hs), List.getElem?_map, List.getElem?_range hs]
  rfl
theorem turn_cost {m : Nat} {L : Lad} (w : Wf m L) (wd : List Nat) : (turnL m L).cost wd = L.cost wd := by
  have z := sim_run (E := ent L.rows) (F := tip L.ends) (E' := ent (turnL m L).rows) (F' := tip (turnL m L).ends) (n := L.rows.length) (φ := flip L.rows.length)
    (fun s hs a => by rw [turn_ent (flip_lt hs), flip_flip hs]; rfl) (fun s hs => by rw [turn_tip (flip_lt hs), flip_flip hs]) (fun s a p t _ e => w.to s a p t e) wd 0 w.pos
  unfold Lad.cost
  have f0 : flip L.rows.length 0 = 0 := rfl
  rw [f0] at z
  rw [z]; rfl
theorem turn_len {m : Nat} {L : Lad} : (turnL m L).rows.length = L.rows.length + 1 := by simp [turnL]
theorem getD_mem {rows : Rows} {s : Nat} (h : s < rows.length) : rows.getD s [] ∈ rows := by
  rw [List.getD_eq_getElem?_getD, List.getElem?_eq_getElem h]
  exact List.getElem_mem h
theorem turn_wf {m : Nat} {L : Lad} (w : Wf m L) : Wf m (turnL m L) := by
  refine ⟨by rw [turn_len]; omega, by rw [turn_len]; simp [turnL], fun r hr => ?_, fun s a p t e => ?_⟩
  · rcases List.mem_append.mp hr with h | h
    · obtain ⟨j, hj, rfl⟩ := List.mem_map.mp h
      have hj := List.mem_range.mp hj
      rw [List.length_map]
      exact w.row _ (getD_mem (flip_lt hj))
    · simp at h
      rw [h, List.length_replicate]
  · rw [turn_len]
    by_cases hs : s < L.rows.length
    · rw [turn_ent hs] at e
      cases k : ent L.rows (flip L.rows.length s) a with
      | none => rw [k] at e; cases e
      | some x =>
        obtain ⟨p0, t0⟩ := x
        rw [k] at e
        have h1 := w.to _ _ _ _ k
        have : flip L.rows.length t0 = t := congrArg Prod.snd (Option.some.inj e)
        have := flip_lt h1
        omega
    · have e : ((((turnL m L).rows[s]?).getD [])[a]?).getD none = some (p, t) := e
      by_cases hs2 : s = L.rows.length
      · have : (turnL m L).rows[s]? = some (List.replicate m (some (1, 0))) := by
          unfold turnL
          simp only
          rw [List.getElem?_append_right (by simp; omega)]
          simp [hs2]
        rw [this] at e
        simp only [Option.getD_some] at e
        by_cases ha : a < m
        · rw [List.getElem?_replicate, if_pos ha] at e
          have : (0 : Nat) = t := congrArg Prod.snd (Option.some.inj e)
          omega
        · rw [List.getElem?_eq_none (by simpa using ha)] at e; cases e
      · have g : (turnL m L).rows[s]? = none := List.getElem?_eq_none (by rw [turn_len]; omega)
        rw [g] at e
        simp at e
theorem turn_ents {m : Nat} {L : Lad} {r : List Ent} (hr : r ∈ (turnL m L).rows) {p : Int} {t : Nat} (h : some (p, t) ∈ r) : p = 1 ∨ ∃ r' ∈ L.rows, ∃ t', some (p, t') ∈ r' := by
  rcases List.mem_append.mp hr with k | k
  · obtain ⟨j, hj, rfl⟩ := List.mem_map.mp k
    have hj := List.mem_range.mp hj
    obtain ⟨e, he, ee⟩ := List.mem_map.mp h
    cases e with
    | none => cases ee
    | some x =>
      obtain ⟨p0, t0⟩ := x
      have : p0 = p := congrArg Prod.fst (Option.some.inj ee)
      subst this
      exact .inr ⟨_, getD_mem (flip_lt hj), t0, he⟩
  · simp at k
    rw [k] at h
    have := List.eq_of_mem_replicate h
    exact .inl (congrArg Prod.fst (Option.some.inj this))
theorem turn_tips {m : Nat} {L : Lad} {c : Int} (hc : some c ∈ (turnL m L).ends) : c = 2 ∨ some c ∈ L.ends := by
  rcases List.mem_append.mp hc with k | k
  · obtain ⟨j, hj, ee⟩ := List.mem_map.mp k
    refine .inr ?_
    unfold tip at ee
    cases e : L.ends[flip L.rows.length j]? with
    | none => rw [e] at ee; cases ee
    | some y =>
      rw [e] at ee
      have : y = some c := ee
      rw [this] at e
      exact List.mem_of_getElem? e
  · simp at k
    exact .inl k
/-! moved: one unit from behind the state s0 to ahead of it -/
def at0 (s0 s : Nat) : Int := if s = s0 then 1 else 0
def moveE (s0 s : Nat) (e : Ent) : Ent := e.map fun x => (x.1 + at0 s0 x.2 - at0 s0 s, x.2)
def moveL (s0 : Nat) (L : Lad) : Lad := ⟨L.first, (List.range L.rows.length).map fun j => (L.rows.getD j []).map (moveE s0 j), (List.range L.rows.length).map fun j => (tip L.ends j).map fun c => c - at0 s0 j⟩
theorem move_len {s0 : Nat} {L : Lad} : (moveL s0 L).rows.length = L.rows.length := by simp [moveL]
theorem move_ent {s0 : Nat} {L : Lad} (s a : Nat) : ent (moveL s0 L).rows s a = moveE s0 s (ent L.rows s a) := by
  unfold ent moveL
  simp only
  by_cases hs : s < L.rows.length
  · rw [List.getElem?_map, List.getElem?_range hs]
    simp only [Option.map_some, Option.getD_some]
    rw [List.getElem?_map, List.getD_eq_getElem?_getD]
    cases (L.rows[s]?.getD [])[a]? <;> rfl
  · have g1 : ((List.range L.rows.length).map fun j => (L.rows.getD j []).map (moveE s0 j))[s]? = none := List.getElem?_eq_none (by simpa using hs)
    have g2 : L.rows[s]? = none := List.getElem?_eq_none (by omega)
    rw [g1, g2]
    rfl
theorem move_tip {m s0 : Nat} {L : Lad} (w : Wf m L) (s : Nat) : tip (moveL s0 L).ends s = (tip L.ends s).map fun c => c - at0 s0 s := by
  unfold moveL
  simp only
  show (_ : Option (Option Int)).getD none = _
  by_cases hs : s < L.rows.length
  · rw [List.getElem?_map, List.getElem?_range hs]; rfl
  · rw [List.getElem?_eq_none (by simpa using hs)]
    have : tip L.ends s = none := by
      unfold tip
      rw [List.getElem?_eq_none (by rw [w.len]; omega)]; rfl
    rw [this]; rfl
theorem move_run {m s0 : Nat} {L : Lad} (w : Wf m L) : ∀ (wd : List Nat) (s : Nat), run (ent (moveL s0 L).rows) (tip (moveL s0 L).ends) s wd = (run (ent L.rows) (tip L.ends) s wd).map fun c => c - at0 s0 s := by
  intro wd
  induction wd with
  | nil => intro s; rw [run_nil, run_nil, move_tip w]
  | cons a wd ih =>
    intro s
    cases e : ent L.rows s a with
    | none => rw [run_none e, run_none (by rw [move_ent, e]; rfl)]; rfl
    | some x =>
      obtain ⟨p, t⟩ := x
      rw [run_some e, run_some (show ent (moveL s0 L).rows s a = some (p + at0 s0 t - at0 s0 s, t) by rw [move_ent, e]; rfl), ih t, Option.map_map, Option.map_map]
      congr 1
      funext c
      simp only [Function.comp]
      omega
theorem move_cost {m s0 : Nat} {L : Lad} (w : Wf m L) (h : s0 ≠ 0) (wd : List Nat) : (moveL s0 L).cost wd = L.cost wd := by
  unfold Lad.cost
  rw [move_run w]
  have : at0 s0 0 = 0 := if_neg (fun z => h z.symm)
  rw [this]
  show Option.map (fun c => L.first + c) _ = _
  cases run (ent L.rows) (tip L.ends) 0 wd with
  | none => rfl
  | some c => simp
theorem move_wf {m s0 : Nat} {L : Lad} (w : Wf m L) : Wf m (moveL s0 L) := by
  refine ⟨by rw [move_len]; exact w.pos, by rw [move_len]; simp [moveL], fun r hr => ?_, fun s a p t e => ?_⟩
  · obtain ⟨j, hj, rfl⟩ := List.mem_map.mp hr
    rw [List.length_map]
    exact w.row _ (getD_mem (List.mem_range.mp hj))
  · rw [move_len]
    rw [move_ent] at e
    cases k : ent L.rows s a with
    | none => rw [k] at e; cases e
    | some x =>
      obtain ⟨p0, t0⟩ := x
      rw [k] at e
      have : t0 = t := congrArg Prod.snd (Option.some.inj e)
      rw [← this]
      exact w.to _ _ _ _ k
end Ladm

set_option maxRecDepth 100000
set_option maxHeartbeats 2000000
/-! list(range(a, b, c)) -/
namespace KD
open PySem PySem.Spec PyProof.Rows L2
def stepV (i c : Int) (n : Nat) : List V := (List.range n).map fun k => V.int (i + (k : Nat) * c)
def tLstRg3 (ta : TA) : TE := fun σ H Q => ta σ H fun vs H1 => ∃ (i j c : Int) (n : Nat), vs = [.int i, .int j, .int c] ∧ RgC i j c n ∧ n ≤ 1000 ∧ ∀ q, H1 q = none → Q (.ref q) (upd H1 q (.lst (stepV i c n)))
theorem vals_step {i c : Int} {n : Nat} {acc : Array Value} (h : ItemsOf (fun k v => ∃ t, v = .int (i + k * c) t) acc n) : Vals (stepV i c n) acc.toList := by
  refine vals_of_at (by unfold stepV; rw [List.length_map, List.length_range, Array.length_toList, h.1]) fun j x u e1 e2 => ?_
  obtain ⟨t, rfl⟩ := h.2 j u (by rw [← e2, Array.getElem?_toList])
  unfold stepV at e1
  have hj := (List.getElem?_eq_some_iff.mp e1).1
  rw [List.length_map, List.length_range] at hj
  rw [List.getElem?_map, List.getElem?_range hj] at e1
  cases e1
  exact ⟨t, rfl⟩
theorem pe_listRg3 {X : Cx} {a b c : Expr} {ta : TA} {p p2 pos q : Pos} (hc : X.calm = true) (hg : Gl X "list") (hm : X.mg "list" = none) (hg2 : Gl X "range") (hm2 : X.mg "range" = none) (ha : PA X [a, b, c] ta)
    (hs : starEach [a, b, c] X.env = (false, eval a X.env) :: starEach [b, c] X.env := by rfl) (hpl : (backTo q (starEach [b, c] X.env)).any (·.1) = false := by rfl)
    (na : starEach [.Call (.Name "range" p2) [a, b, c] [] q] X.env = (false, eval (.Call (.Name "range" p2) [a, b, c] [] q) X.env) :: starEach [] X.env := by rfl) :
    PE X (.Call (.Name "list" p) [.Call (.Name "range" p2) [a, b, c] [] q] [] pos) (tLstRg3 ta) := by
  refine ⟨fun pins s σ H Q I h => ?_⟩
  refine Call_ (ld_blt I hg hm boot_list (PyProof.Rows.callWith_type1 (PyProof.Rows.args_cons ?_ na) na rfl))
  refine Call_ (ld_blt I hg2 hm2 boot_range (PyProof.Rows.callWith_type1 (thn (ha.run q pins s σ H _ I h) fun us s1 ⟨vs, H1, I1, r1, q1⟩ => ?_) hs hpl))
  obtain ⟨i, j, k, n, e, ⟨c0, c1, c2, c3⟩, hn, q1⟩ := q1
  subst e
  cases r1 with
  | cons r rr =>
    cases rr with
    | cons r' rr =>
      cases rr with
      | cons r'' rr =>
        cases rr
        obtain ⟨t, rfl⟩ := r
        obtain ⟨t', rfl⟩ := r'
        obtain ⟨t'', rfl⟩ := r''
        refine call_range_3 c0 ?_ (.inl (PyProof.noPylong_small c1))
        refine PyProof.Rows.args_nil ?_
        have I2 : Inv X pins σ H1 { s1 with heap := s1.heap.push { cls := .type "range", data := .fields #[.int i t, .int j t', .int k t''] } } := I1.kept (t' := s1.toks) fun b o e => Heap.get?_push_of_some _ e
        refine call_list_range (n := n) (I2.ok.hd hc) (IsRange.new ..) c2 c3 (by omega) fun h' tk acc c' hk e' hi => ?_
        generalize ({ s1 with heap := s1.heap.push { cls := .type "range", data := .fields #[.int i t, .int j t', .int k t''] } } : Shared) = s2 at *
        refine ⟨.ref s2.heap.objs.size, upd H1 s2.heap.objs.size (.lst (stepV i k n)), I2.laid hk (Nat.le_refl _) (show ObjOk X.prog X.w _ _ _ (.lst (stepV i k n)) from ⟨?_, acc.toList, c', vals_step hi, ?_⟩), rfl, q1 _ (I2.hok.fresh (Nat.le_refl _))⟩
        · unfold stepV
          rw [List.length_map, List.length_range, sizeLine_eq]
          omega
        · rw [Array.toArray_toList]; exact e'
theorem evl_rg3 {K : PySem.W.Frag} {H : Hp} {σ : L2.St} {ta : TA} {n : Nat} (h : EvA K ta σ H [.int ((n : Int) - 1), .int 0, .int (-1)]) (hn : n ≤ 1000) (h1 : 1 ≤ n) : EvL K (tLstRg3 ta) σ H ((List.range (n - 1)).map fun k => .int (((n - 1 - k : Nat) : Nat) : Int)) := fun H1 s Q q => h H1 s _ fun vs H2 s2 p2 => by
  obtain ⟨x, y, z, rfl, k1, k2, k3⟩ := p2.three
  cases k1; cases k2; cases k3
  refine ⟨(n : Int) - 1, 0, -1, n - 1, rfl, ?_, by omega, fun r hr => ?_⟩
  · have := RgC.neg (i := (n : Int) - 1) (j := 0) (by omega) (by omega) (by omega) (by omega)
    have e : ((n : Int) - 1 - 0).toNat = n - 1 := by omega
    rwa [e] at this
  · refine q r _ _ (s2.free hr) (s2.trans (same_new hr)) upd_same ?_
    have : stepV ((n : Int) - 1) (-1) (n - 1) = ((List.range (n - 1)).map fun k => ((n - 1 - k : Nat) : Int)).map V.int := by
      unfold stepV
      rw [List.map_map]
      refine List.map_congr_left fun k hk => ?_
      have := List.mem_range.mp hk
      simp only [Function.comp]
      congr 1
      omega
    rw [this]
    have z := DqAll.ints (K := K) (H := upd H2 r (.lst (stepV ((n : Int) - 1) (-1) (n - 1)))) ((List.range (n - 1)).map fun k => ((n - 1 - k : Nat) : Int))
    rw [this] at z
    rw [List.map_map] at z
    rw [List.map_map] at z ⊢
    exact z
end KD

set_option maxRecDepth 100000
set_option maxHeartbeats 2000000
/-! _law_turned, _law_moved -/
namespace K96
open PySem PySem.Spec PyProof.Rows L2 KD Ladm
section
variable {K : PySem.W.Frag} {H : Hp} {σ : L2.St} {te ti ta tb : TE} {D : Ends} {u : TS}
theorem evi_rangeT {n : Nat} (h : EvD K te σ H (.int (n : Nat))) (hn : n ≤ 100000) : EvI (fun _ _ => True) K (iRng1 (tCons te tNil)) σ H (nats n) := fun H1 s R q => h.run s fun v H2 s2 p2 => by
  cases p2
  refine ⟨n, rfl, by omega, by omega, ?_⟩
  rw [Int.toNat_natCast]
  refine q _ H2 s2 ⟨fun H' _ => ?_, fun i d H' e _ => ?_, fun i d x H' H'' e _ y => ?_⟩
  · exact (itr_nats (K := K) (H := H')).stop H' (Kp.refl _)
  · exact (itr_nats (K := K) (H := H')).go i d H' e (Kp.refl _)
  · exact (itr_nats (K := K) (H := H')).yld i d x H' H'' e (Kp.refl _) y
theorem nats_get {n i : Nat} {d : PyData} (h : (nats n)[i]? = some d) : i < n ∧ d = .int (i : Nat) := by
  have hi : i < n := by
    have := (List.getElem?_eq_some_iff.mp h).1
    simpa [nats] using this
  refine ⟨hi, ?_⟩
  unfold nats at h
  rw [List.getElem?_map, List.getElem?_range hi] at h
  exact (Option.some.inj h).symm
theorem nats_len {n : Nat} : (nats n).length = n := by simp [nats]
theorem evl_rep {n : Nat} {d : PyData} (ha : EvLs K ta σ H [d]) (hb : EvD K tb σ H (.int (n : Nat))) (hn : n ≤ 100000) : EvL K (tOp rRep ta tb) σ H (List.replicate n d) := fun H1 s Q q =>
  ha H1 s _ fun p xs H2 s2 e2 d2 => hb.run (s.trans s2) fun v H3 s3 p3 => by
    cases p3
    obtain ⟨y, rfl, hy⟩ := d2.single
    refine ⟨p, n, [y], rfl, rfl, s3 _ _ e2, by omega, by omega, by rw [Int.toNat_natCast, sizeLine_eq]; simp; omega, fun r hr => ?_⟩
    rw [Int.toNat_natCast, flat_one]
    exact q r _ _ ((s2.trans s3).free hr) ((s2.trans s3).trans (same_new hr)) upd_same (evd_rep1.rep_all ((hy.mono s3).mono (same_new hr)) n)
theorem evq_setX {i j : Nat} {p : Addr} {xs : List V} {d : PyData} (hp : H p = some (.lst xs)) (hi : i < xs.length) (hv : σ[j]? = some (some (.ref p))) (h : EvD K te σ H d) (hx : ∀ H1, Same H H1 → EvD K ti σ H1 (.int (i : Nat))) (q : ∀ v H1, Same H H1 → Dq K H1 v d → u D σ (upd H1 p (.lst (xs.set i v)))) :
    tSeq (tAsg te (gSub (tVar j) ti rSetL)) u D σ H := h.use _ fun v H1 s1 p1 => ⟨.ref p, hv, (hx H1 s1).use _ fun y H2 s2 p2 => by
  cases p2
  exact ⟨p, xs, i, i, rfl, rfl, (s1.trans s2) _ _ hp, ixN_at hi, q v H2 (s1.trans s2) (p1.mono s2)⟩⟩
theorem evs_setX {i j : Nat} {p : Addr} {xs : List V} {d : PyData} (hp : H p = some (.lst xs)) (hi : i < xs.length) (hv : σ[j]? = some (some (.ref p))) (h : EvD K te σ H d) (hx : ∀ H1, Same H H1 → EvD K ti σ H1 (.int (i : Nat))) (q : ∀ v H1, Same H H1 → Dq K H1 v d → D.nx σ (upd H1 p (.lst (xs.set i v)))) :
    tAsg te (gSub (tVar j) ti rSetL) D σ H := evq_setX (u := fun D => D.nx) hp hi hv h hx q
end
theorem set_flip {α : Type} {n i : Nat} (hi : i < n) (f : Nat → α) (z : α) : ((List.range n).map fun j => if flip n j < i then f (flip n j) else z).set (flip n i) (f i) = (List.range n).map fun j => if flip n j < i + 1 then f (flip n j) else z := by
  refine List.ext_getElem? fun j => ?_
  by_cases hj : j < n
  · by_cases e : flip n i = j
    · subst e
      rw [List.getElem?_set_self (by simpa using hj), List.getElem?_map, List.getElem?_range hj, Option.map_some, flip_flip hi, if_pos (by omega)]
    · rw [List.getElem?_set_ne e, List.getElem?_map, List.getElem?_map, List.getElem?_range hj, Option.map_some, Option.map_some]
      have ne : flip n j ≠ i := fun z => e (by rw [← z, flip_flip hj])
      by_cases c : flip n j < i
      · rw [if_pos c, if_pos (by omega)]
      · rw [if_neg c, if_neg (by omega)]
  · rw [List.getElem?_eq_none (by simpa using hj), List.getElem?_eq_none (by simpa using hj)]
theorem flips {n : Nat} (h : 1 ≤ n) : [PyData.int 0] ++ ((List.range (n - 1)).map fun k => PyData.int (((n - 1 - k : Nat) : Nat) : Int)) = (List.range n).map fun i => PyData.int (flip n i : Nat) := by
  obtain ⟨m, rfl⟩ : ∃ m, n = m + 1 := ⟨n - 1, by omega⟩
  rw [List.range_succ_eq_map, List.map_cons, List.map_map]
  show _ :: _ = _
  congr 1
  refine List.map_congr_left fun k hk => ?_
  have := List.mem_range.mp hk
  simp only [Function.comp]
  congr 2
  unfold Ladm.flip
  rw [if_neg (by omega)]
  omega
section
variable {P : Program} {w : World} {K : PySem.W.Frag} {mg : Str → Option Value} {base : Heap}
def spTurned (K : PySem.W.Frag) : Sp := fun vs H Q _ => ∃ (x : V) (lt : List Str) (L : Lad), vs = [x] ∧ Dq K H x (ladD lt L) ∧ Wf lt.length L ∧ lt.length ≤ 6 ∧ L.rows.length ≤ 60 ∧ ∀ v H', Same H H' → Dq K H' v (ladD lt (turnL lt.length L)) → Q v H'
theorem ok_l_turned (T : Txt K mg) : FnOk P w K mg base CX0 1 T.A_l_turned.f T.A_l_turned.d ["ladder"] (spTurned K) := by
  refine T.A_l_turned.F.ok sc_l_turned (fun vs H Q E h => ?_) (fun cdv A outer s H vs Q E hr h => ?_)
  · obtain ⟨_, _, _, rfl, _⟩ := h; rfl
  · obtain ⟨x, lt, L, rfl, hx, wf, l6, hn, q⟩ := h
    refine ⟨_, ((pss_cons (ps_asg (pv 0) (kgTup (K := K) rfl (pgs_cons (pg_name (i := 1) sc_l_turned.nd rfl (.inl rfl)) (pgs_cons (pg_name (i := 2) sc_l_turned.nd rfl (.inl rfl)) (pgs_cons (pg_name (i := 3) sc_l_turned.nd rfl (.inl rfl)) (pgs_cons (pg_name (i := 4) sc_l_turned.nd rfl (.inl rfl)) pgs_nil))))))
  (pss_cons (ps_set (i := 5) sc_l_turned.nd rfl (.inl rfl) (pe_callB (kLen (K := K)) (by rfl) T.n_len (by decide +kernel) (pa_cons (pv 3) pa_nil)))
  (pss_cons (ps_set (i := 6) sc_l_turned.nd rfl (.inr rfl) (pe_op op_cat (pe_lst (pa_cons pe_int pa_nil)) (pe_listRg3 rfl (by rfl) T.n_list (by rfl) T.n_range (pa_cons (pe_op op_sub (pv 5) pe_int) (pa_cons pe_int (pa_cons (pe_un un_neg pe_int) pa_nil))))))
  (pss_cons (ps_par (i := 7) (j := 8) (by rfl) sc_l_turned.nd rfl rfl (by decide) rfl rfl (pa_cons (pe_op op_rep (pe_lst (pa_cons pe_non pa_nil)) (pv 5)) (pa_cons (pe_op op_rep (pe_lst (pa_cons pe_non pa_nil)) (pv 5)) pa_nil)) (by rfl))
  (pss_cons (ps_for PassesOwn.never rfl (pi_range1 rfl T.n_range (pa_cons (pv 5) pa_nil)) (pg_name (i := 9) sc_l_turned.nd rfl (.inl rfl))
    (pss_cons (ps_asg (pe_callTy (kTup (K := K)) (by rfl) T.n_tuple (by decide +kernel) (pa_cons (pe_lc (own := [("entry", 10)]) (g := gName 10) (tt := tYes) rfl sc_l_turned.nd (kiTup (K := K) (pe_ix (kIxT (K := K)) (pv 3) (pv 9) (fun _ _ => rfl))) (blkOk_by (own := [("entry", 10)]) (N := ["ladder", "letters", "first", "rows", "ends", "many", "names", "found", "last", "p", "entry", "letter"]) (sc := defScope s_l_turned) (by decide +kernel)) (fun _ _ _ _ _ => (pg_name (i := 10) sc_l_turned.nd rfl (.inl rfl))) (fun _ _ _ _ _ => pts_nil) (fun _ _ _ _ _ => (pe_ifExp (pt_cmpR op_isN (pv 10) pe_non (nomark _)) pe_non (pe_tup (pa_cons (pe_ix (kIxT (K := K)) (pv 10) pe_int (fun _ _ => rfl)) (pa_cons (pe_ix (kIxL (K := K)) (pv 6) (pe_ix (kIxT (K := K)) (pv 10) pe_int (fun _ _ => rfl)) (fun _ _ => rfl)) pa_nil)))))) pa_nil)) (pg_sub (pv 7) (pe_ix (kIxL (K := K)) (pv 6) (pv 9) (fun _ _ => rfl)) set_list))
  (pss_one (ps_asg (pe_ix (kIxT (K := K)) (pv 4) (pv 9) (fun _ _ => rfl)) (pg_sub (pv 8) (pe_ix (kIxL (K := K)) (pv 6) (pv 9) (fun _ _ => rfl)) set_list)))))
  (pss_one (ps_ret (pe_tup (pa_cons (pv 1) (pa_cons (pv 2) (pa_cons (pe_op (kCatT (K := K)) (pe_callTy (kTup (K := K)) (by rfl) T.n_tuple (by decide +kernel) (pa_cons (pv 7) pa_nil)) (pe_tup (pa_cons (pe_callTy (kTup (K := K)) (by rfl) T.n_tuple (by decide +kernel) (pa_cons (pe_lc (own := [("letter", 11)]) (g := gName 11) (tt := tYes) rfl sc_l_turned.nd (kiTup (K := K) (pv 1)) (blkOk_by (own := [("letter", 11)]) (N := ["ladder", "letters", "first", "rows", "ends", "many", "names", "found", "last", "p", "entry", "letter"]) (sc := defScope s_l_turned) (by decide +kernel)) (fun _ _ _ _ _ => (pg_name (i := 11) sc_l_turned.nd rfl (.inl rfl))) (fun _ _ _ _ _ => pts_nil) (fun _ _ _ _ _ => (pe_tup (pa_cons pe_int (pa_cons pe_int pa_nil))))) pa_nil)) pa_nil))) (pa_cons (pe_op (kCatT (K := K)) (pe_callTy (kTup (K := K)) (by rfl) T.n_tuple (by decide +kernel) (pa_cons (pv 8) pa_nil)) (pe_tup (pa_cons pe_int pa_nil))) pa_nil))))))))))))), ?_⟩
    have n1 := wf.pos
    refine evq_tup4 (evd_v 0 rfl hx) fun u1 u2 u3 u4 H1 s1 k1 k2 k3 k4 => ?_
    cases k2
    refine evq_setD (K := K) (evd_is (evd_lenT (evd_v 3 rfl k3)) (by rw [List.length_map])) fun v H2 s2 p2 => ?_
    cases p2
    generalize hnn : L.rows.length = n at *
    refine evq_setL (K := K) (EvL.is (evl_cat (EvL.ls (evl_lst (eva_cons evd_int eva_nil) (by simp))) (EvL.ls (evl_rg3 (n := n) (eva_cons (evd_ar (g := fun i j => i - j) (evd_v 5 rfl (.int (n : Nat))) evd_int) (eva_cons evd_int (eva_cons (evd_neg evd_int) eva_nil))) (by omega) n1)) (by simp; omega)) (flips n1)) fun pn xn H3 hpn s3 en dn => ?_
    refine evq_parL ?_
    refine (evl_rep (K := K) (n := n) (d := .none) (EvL.ls (evl_lst (eva_cons evd_non eva_nil) (by simp))) (evd_v 5 rfl (.int (n : Nat))) (by omega)) H3 (Same.refl _) _ fun pf xf H4 hpf s4 ef df => ?_
    refine (evl_rep (K := K) (n := n) (d := .none) (EvL.ls (evl_lst (eva_cons evd_non eva_nil) (by simp))) (evd_v 5 rfl (.int (n : Nat))) (by omega)) H4 (Same.refl _) _ fun pl xl H5 hpl s5 el dl => ?_
    refine ⟨_, _, rfl, ?_⟩
    have s13 := s2.trans s3
    have hpf1 : H3 pf = none := hpf
    have hpl1 : H3 pl = none := s4.free hpl
    have nfl : pf ≠ pl := fun z => by rw [← z, ef] at hpl; cases hpl
    have nul : ∀ {α : Type} (z : α), List.replicate n z = (List.range n).map fun _ => z := fun z => by
      rw [List.map_const']; simp
    let fR : Nat → PyData := fun s => rowD ((rowOf L s).map (flipE n))
    let fT : Nat → PyData := fun s => tipD (tip L.ends s)
    refine evq_for (K := K) (evi_rangeT (evd_v 5 rfl (.int (n : Nat))) (by omega)) (fun _ i σ' H' => ∃ (x9 : Option V) (af al : List V), σ' = [some x, some u1, some (.int L.first), some u3, some u4, some (.int (n : Nat)), some (.ref pn), some (.ref pf), some (.ref pl), x9, none, none] ∧ Same H3 H' ∧
      H' pf = some (.lst af) ∧ DqAll K H' af ((List.range n).map fun j => if flip n j < i then fR (flip n j) else .none) ∧ H' pl = some (.lst al) ∧ DqAll K H' al ((List.range n).map fun j => if flip n j < i then fT (flip n j) else .none)) (fun _ _ _ _ _ _ _ => trivial)
      (fun Hb sb => ⟨none, xf, xl, rfl, s4.trans (s5.trans sb), sb _ _ (s5 _ _ ef), ?_, sb _ _ el, ?_⟩) (fun Hb i d σ' H' xv H'' sb hd ⟨x9, af, al, eσ, t1, t2, t3, t4, t5⟩ s6 dx => ?_) fun Hb σ' H' sb ⟨x9, af, al, eσ, t1, t2, t3, t4, t5⟩ => ?_
    · have := (df.mono s5).mono sb
      rw [nul] at this
      refine (List.map_congr_left fun j _ => ?_) ▸ this
      rw [if_neg (by omega)]
    · have := dl.mono sb
      rw [nul] at this
      refine (List.map_congr_left fun j _ => ?_) ▸ this
      rw [if_neg (by omega)]
    · subst eσ
      obtain ⟨hi, rfl⟩ := nats_get hd
      cases dx
      have hiL : i < L.rows.length := by omega
      have fl := flip_lt hi
      have t16 := t1.trans s6
      have k3' := (k3.mono s13).mono t16
      have k4' := (k4.mono s13).mono t16
      have laf : af.length = n := by rw [t3.length]; simp
      have lal : al.length = n := by rw [t5.length]; simp
      have grow : (L.rows.map rowD)[i]? = some (rowD (rowOf L i)) := by rw [List.getElem?_map, rowOf_get hiL]; rfl
      have rl : (rowOf L i).length ≤ 6 := by rw [wf.row _ (rowOf_mem hiL)]; exact l6
      have evN : ∀ {σ0 : L2.St} {H7 : Hp} {te : TE} {j : Nat}, Same H'' H7 → σ0[6]? = some (some (.ref pn)) → EvD K te σ0 H7 (.int (j : Nat)) → j < n → EvD K (tOp (rIxL K) (tVar 6) te) σ0 H7 (.int (flip n j : Nat)) := fun {σ0 H7 te j} s h6 ht hj =>
        evd_ixLs (i := j) (.inl (.inl ((t16.trans s) _ _ en))) (dn.mono (t16.trans s)) (evr_v 6 h6) ht (by rw [List.getElem?_map, List.getElem?_range hj]; rfl)
      have comp : EvL K (tLc (iTup K (tOp (rIxT K) (tVar 3) (tVar 9))) (gName 10) tYes (tIf (tTest (tOp rIsN (tVar 10) (tC .non))) (tC .non) (tTup (tCons (tOp (rIxT K) (tVar 10) (tC (.int 0))) (tCons (tOp (rIxL K) (tVar 6) (tOp (rIxT K) (tVar 10) (tC (.int 1)))) tNil)))) [10])
          [some x, some u1, some (.int L.first), some u3, some u4, some (.int (n : Nat)), some (.ref pn), some (.ref pf), some (.ref pl), some (.int (i : Nat)), none, none] H'' (((rowOf L i).map entD).map fun d => entD (flipE n (unE d))) := by
        refine evl_map (i := 10) (evi_tup (evd_ixT (i := i) (evd_v 3 rfl k3') (evd_v 9 rfl (.int _)) grow)).same (by rw [List.length_map]; omega) _ fun d xe H7 hd s7 dxe => ?_
        obtain ⟨e, he, rfl⟩ := List.mem_map.mp hd
        have v10 : EvD K (tVar 10) [some x, some u1, some (.int L.first), some u3, some u4, some (.int (n : Nat)), some (.ref pn), some (.ref pf), some (.ref pl), some (.int (i : Nat)), some xe, none] H7 (entD e) := evd_v 10 rfl dxe
        rw [unE_entD]
        cases e with
        | none => exact evp_if (b := true) (evb_test (evd_isN v10)) (fun _ => evd_non) fun z => nomatch z
        | some pt =>
          obtain ⟨p, t⟩ := pt
          have ht : t < n := by
            obtain ⟨a, ha⟩ := List.mem_iff_getElem?.mp he
            have := wf.to i a p t (by unfold ent; rw [rowOf_get hiL]; simp only [Option.getD_some]; rw [ha]; rfl)
            omega
          exact evp_if (b := false) (evb_test (evd_isN v10)) (fun z => nomatch z) fun _ => evd_tup (eva_cons (evd_ixT (i := 0) v10 evd_int rfl) (eva_cons (evN s7 rfl (evd_ixT (i := 1) v10 evd_int rfl) ht) eva_nil)) (by simp)
      have dsE : ((rowOf L i).map entD).map (fun d => entD (flipE n (unE d))) = ((rowOf L i).map (flipE n)).map entD := by
        rw [List.map_map, List.map_map]
        exact List.map_congr_left fun e _ => by simp only [Function.comp, unE_entD]
      refine evq_setX (K := K) (i := flip n i) (s6 _ _ t2) (by omega) rfl (evd_is (evd_tupleL comp) (by rw [dsE]; rfl : _ = fR i)) (fun H7 s7 => evN s7 rfl (evd_v 9 rfl (.int _)) hi) fun v H7 s7 p7 => ?_
      have e7 := s7 _ _ (s6 _ _ t2)
      have kp7 := Kp.updL (ys := af.set (flip n i) v) e7
      have t17 := t16.trans s7
      have gtip : (L.ends.map tipD)[i]? = some (tipD (tip L.ends i)) := by rw [List.getElem?_map, tip_get wf hiL]; rfl
      have t4' : (upd H7 pf (.lst (af.set (flip n i) v))) pl = some (.lst al) := by rw [upd_ne (Ne.symm nfl)]; exact s7 _ _ (s6 _ _ t4)
      have en7 : (upd H7 pf (.lst (af.set (flip n i) v))) pn = some (.lst xn) := by rw [upd_ne (fun z => by rw [← z, en] at hpf1; cases hpf1)]; exact t17 _ _ en
      refine evs_setX (K := K) (i := flip n i) (d := fT i) t4' (by omega) rfl (evd_ixT (i := i) (evd_v 4 rfl (((k4'.mono s7)).kp kp7)) (evd_v 9 rfl (.int _)) gtip) (fun H8 s8 => evd_ixLs (i := i) (.inl (.inl (s8 _ _ en7))) ((((dn.mono t17)).kp kp7).mono s8) (evr_v 6 rfl) (evd_v 9 rfl (.int _)) (by rw [List.getElem?_map, List.getElem?_range hi]; rfl)) fun v8 H8 s8 p8 => ?_
      have e8 := s8 _ _ t4'
      have kp8 := Kp.updL (ys := al.set (flip n i) v8) e8
      refine ⟨_, af.set (flip n i) v, al.set (flip n i) v8, rfl, same_mut ((same_mut t17 hpf1).trans s8) hpl1, ?_, ?_, upd_same, ?_⟩
      · rw [upd_ne nfl]; exact s8 _ _ upd_same
      · rw [← set_flip hi fR .none]
        exact ((((((t3.mono s6).mono s7).set _ p7).kp kp7).mono s8)).kp kp8
      · rw [← set_flip hi fT .none]
        exact (((((t5.mono s6).mono s7).kp kp7).mono s8).set _ p8).kp kp8
    · subst eσ
      rw [nats_len] at t3 t5
      have eR : ((List.range n).map fun j => if flip n j < n then fR (flip n j) else PyData.none) = ((List.range n).map fun j => (L.rows.getD (flip n j) []).map (flipE n)).map rowD := by
        rw [List.map_map]
        refine List.map_congr_left fun j hj => ?_
        rw [if_pos (flip_lt (List.mem_range.mp hj))]; rfl
      have eT : ((List.range n).map fun j => if flip n j < n then fT (flip n j) else PyData.none) = ((List.range n).map fun j => tip L.ends (flip n j)).map tipD := by
        rw [List.map_map]
        refine List.map_congr_left fun j hj => ?_
        rw [if_pos (flip_lt (List.mem_range.mp hj))]; rfl
      rw [eR] at t3
      rw [eT] at t5
      have k1' := (k1.mono s13).mono t1
      have comp : EvL K (tLc (iTup K (tVar 1)) (gName 11) tYes (tTup (tCons (tC (.int 1)) (tCons (tC (.int 0)) tNil))) [11]) [some x, some u1, some (.int L.first), some u3, some u4, some (.int (n : Nat)), some (.ref pn), some (.ref pf), some (.ref pl), x9, none, none] H' ((lt.map PyData.str).map fun _ => PyData.tuple [.int 1, .int 0]) :=
        evl_map (i := 11) (evi_tup (evd_v 1 rfl k1')).same (by rw [List.length_map]; omega) _ fun d xe H7 hd s7 dxe => evd_tup (eva_cons evd_int (eva_cons evd_int eva_nil)) (by simp)
      refine evs_retD (K := K) (d := ladD lt (turnL lt.length L)) (evd_is (evd_tup (eva_cons (evd_v 1 rfl k1') (eva_cons (evd_v 2 rfl (.int _)) (eva_cons (evd_cat (evd_tupleLs (.inl (.inl t2)) t3 (evr_v 7 rfl)) (evd_tup (eva_cons (evd_tupleL comp) eva_nil) (by simp)) (by simp; omega)) (eva_cons (evd_cat (evd_tupleLs (.inl (.inl t4)) t5 (evr_v 8 rfl)) (evd_tup (eva_cons evd_int eva_nil) (by simp)) (by simp; omega)) eva_nil)))) (by simp)) ?_) fun v H7 s7 p7 => q v H7 (s1.trans (s13.trans (t1.trans s7))) p7
      unfold ladD turnL rowsD tipsD
      rw [hnn]
      simp only [List.map_append, List.map_cons, List.map_nil, rowD, List.map_replicate, List.map_map]
      congr 7
      have cst : lt.map ((fun _ : PyData => PyData.tuple [PyData.int 1, PyData.int 0]) ∘ PyData.str) = List.replicate lt.length (entD (some (1, 0))) := by
        rw [← List.map_const']
        rfl
      rw [cst]
end
end K96

set_option maxRecDepth 100000
set_option maxHeartbeats 2000000
/-! _law_moved -/
namespace K96
open PySem PySem.Spec PyProof.Rows L2 KD Ladm
def ownF (s0 : Nat) : PyData → Option PyData
  | .tuple [.int p, .int t] => if t = (s0 : Int) then none else some (.int p)
  | _ => none
def ownR (s0 : Nat) (r : List Ent) : List Int := r.filterMap fun e => e.bind fun x => if x.2 = s0 then none else some x.1
theorem own_eq (s0 : Nat) (r : List Ent) : (r.map entD).filterMap (ownF s0) = (ownR s0 r).map .int := by
  unfold ownR
  rw [List.filterMap_map, List.map_filterMap]
  congr 1
  funext e
  cases e with
  | none => rfl
  | some x =>
    obtain ⟨p, t⟩ := x
    simp only [Function.comp, entD, ownF, Option.bind_some]
    by_cases c : t = s0
    · subst c; simp
    · rw [if_neg c, if_neg (by omega)]; rfl
def someF : PyData → Option PyData
  | .none => none
  | d => some d
theorem some_eq (c : Option Int) : [tipD c].filterMap someF = c.toList.map .int := by cases c <;> rfl
theorem at0_b (s0 s : Nat) : (if decide ((s : Int) = (s0 : Int)) = true then (1 : Int) else 0) = at0 s0 s := by
  unfold at0
  by_cases c : s = s0
  · subst c; simp
  · rw [if_neg c, if_neg (by simp; omega)]
section
variable {K : PySem.W.Frag} {H : Hp} {σ : L2.St} {te ta tb : TE}
theorem evd_neI {i j : Int} (ha : EvD K ta σ H (.int i)) (hb : EvD K tb σ H (.int j)) : EvD K (tOp rNe ta tb) σ H (.bool (!decide (i = j))) := evd_ne ha hb rfl
end
section
variable {P : Program} {w : World} {K : PySem.W.Frag} {mg : Str → Option Value} {base : Heap}
def spMoved (K : PySem.W.Frag) : Sp := fun vs H Q _ => ∃ (x : V) (lt : List Str) (L : Lad) (s0 : Nat), vs = [x, .int (s0 : Nat), .int 1] ∧ Dq K H x (ladD lt L) ∧ Wf lt.length L ∧ lt.length ≤ 6 ∧ L.rows.length ≤ 60 ∧ Bnd 3 L ∧ s0 < L.rows.length ∧
  (∀ H', Same H H' → Q .non H') ∧ (∀ v H', Same H H' → s0 ≠ 0 → Dq K H' v (ladD lt (moveL s0 L)) → Bnd 4 (moveL s0 L) → Q v H')
theorem ok_l_moved (T : Txt K mg) : FnOk P w K mg base CX0 1 T.A_l_moved.f T.A_l_moved.d ["ladder", "state", "number"] (spMoved K) := by
  refine T.A_l_moved.F.ok sc_l_moved (fun vs H Q E h => ?_) (fun cdv A outer s H vs Q E hr h => ?_)
  · obtain ⟨_, _, _, _, rfl, _⟩ := h; rfl
  · obtain ⟨x, lt, L, s0, rfl, hx, wf, l6, hn, bd, hs0, q0, q1⟩ := h
    refine ⟨_, ((pss_cons (ps_asg (pv 0) (kgTup (K := K) rfl (pgs_cons (pg_name (i := 3) sc_l_moved.nd rfl (.inl rfl)) (pgs_cons (pg_name (i := 4) sc_l_moved.nd rfl (.inl rfl)) (pgs_cons (pg_name (i := 5) sc_l_moved.nd rfl (.inl rfl)) (pgs_cons (pg_name (i := 6) sc_l_moved.nd rfl (.inr rfl)) pgs_nil))))))
  (pss_cons (ps_set (i := 7) sc_l_moved.nd rfl (.inl rfl) (pe_op op_cat (pe_lc (own := [("entry", 11)]) (g := gName 11) rfl sc_l_moved.nd (kiTup (K := K) (pe_ix (kIxT (K := K)) (pv 5) (pv 1) (fun _ _ => rfl))) (blkOk_by (own := [("entry", 11)]) (N := ["ladder", "state", "number", "letters", "first", "rows", "ends", "own", "found", "p", "row", "entry", "price", "last", "end"]) (sc := defScope s_l_moved) (by decide +kernel)) (fun _ _ _ _ _ => (pg_name (i := 11) sc_l_moved.nd rfl (.inl rfl))) (fun _ _ _ _ _ => pts_one (PW.pt (pw_and (pt_cmpR op_notN (pv 11) pe_non (nomark _)) (pw_and1 (pt_cmpR op_ne (pe_ix (kIxT (K := K)) (pv 11) pe_int (fun _ _ => rfl)) (pv 1) (nomark _)))))) (fun _ _ _ _ _ => (pe_ix (kIxT (K := K)) (pv 11) pe_int (fun _ _ => rfl)))) (pe_lc (own := [("end", 14)]) (g := gName 14) rfl sc_l_moved.nd (kiList (K := K) (pe_lst (pa_cons (pe_ix (kIxT (K := K)) (pv 6) (pv 1) (fun _ _ => rfl)) pa_nil))) (blkOk_by (own := [("end", 14)]) (N := ["ladder", "state", "number", "letters", "first", "rows", "ends", "own", "found", "p", "row", "entry", "price", "last", "end"]) (sc := defScope s_l_moved) (by decide +kernel)) (fun _ _ _ _ _ => (pg_name (i := 14) sc_l_moved.nd rfl (.inl rfl))) (fun _ _ _ _ _ => pts_one (pt_cmpR op_notN (pv 14) pe_non (nomark _))) (fun _ _ _ _ _ => (pv 14)))))
  (pss_cons (ps_if (PW.pt (pw_or (pt_cmpR op_eq (pv 1) pe_int (nomark _)) (pw_or (pt_cmpR (kEqD (K := K) (hu64 hr)) (pv 7) (pe_lst pa_nil) (nomark _)) (pw_or1 (pt_cmpR op_lt (pe_callB (kMin (K := K)) (by rfl) T.n_min (by decide +kernel) (pa_cons (pv 7) pa_nil)) (pv 2) (nomark _)))))) (pss_one (ps_ret pe_non)) pss_nil)
  (pss_cons (ps_set (i := 8) sc_l_moved.nd rfl (.inl rfl) (pe_lst pa_nil))
  (pss_cons (ps_for PassesOwn.never rfl (pi_range1 rfl T.n_range (pa_cons (pe_callB (kLen (K := K)) (by rfl) T.n_len (by decide +kernel) (pa_cons (pv 5) pa_nil)) pa_nil)) (pg_name (i := 9) sc_l_moved.nd rfl (.inl rfl))
    (pss_cons (ps_set (i := 10) sc_l_moved.nd rfl (.inl rfl) (pe_lst pa_nil))
  (pss_cons (ps_for PassesOwn.never rfl (kiTup (K := K) (pe_ix (kIxT (K := K)) (pv 5) (pv 9) (fun _ _ => rfl))) (pg_name (i := 11) sc_l_moved.nd rfl (.inl rfl))
    (pss_cons (ps_set (i := 12) sc_l_moved.nd rfl (.inl rfl) (pe_ifExp (pt_cmpR op_isN (pv 11) pe_non (nomark _)) pe_non (pe_op op_sub (pe_op op_add (pe_ix (kIxT (K := K)) (pv 11) pe_int (fun _ _ => rfl)) (pe_op op_mul (pv 2) (pe_callTy kInt (by rfl) T.n_int (by decide +kernel) (pa_cons (pe_cmpR op_eq (pe_ix (kIxT (K := K)) (pv 11) pe_int (fun _ _ => rfl)) (pv 1) (nomark _)) pa_nil)))) (pe_op op_mul (pv 2) (pe_callTy kInt (by rfl) T.n_int (by decide +kernel) (pa_cons (pe_cmpR op_eq (pv 9) (pv 1) (nomark _)) pa_nil))))))
  (pss_one (ps_expr (pe_bm PySem.F.plainAttrs_list PySem.F.slot_list_append PySem.F.type_list_append mt_append (pv 10) (pa_cons (pe_ifExp (pt_cmpR op_isN (pv 11) pe_non (nomark _)) pe_non (pe_tup (pa_cons (pv 12) (pa_cons (pe_ix (kIxT (K := K)) (pv 11) pe_int (fun _ _ => rfl)) pa_nil)))) pa_nil))))))
  (pss_one (ps_expr (pe_bm PySem.F.plainAttrs_list PySem.F.slot_list_append PySem.F.type_list_append mt_append (pv 8) (pa_cons (pe_callTy (kTup (K := K)) (by rfl) T.n_tuple (by decide +kernel) (pa_cons (pv 10) pa_nil)) pa_nil)))))))
  (pss_cons (ps_set (i := 13) sc_l_moved.nd rfl (.inl rfl) (pe_callTy (kTup (K := K)) (by rfl) T.n_tuple (by decide +kernel) (pa_cons (pe_lc (own := [("p", 9)]) (g := gName 9) (tt := tYes) rfl sc_l_moved.nd (pi_range1 rfl T.n_range (pa_cons (pe_callB (kLen (K := K)) (by rfl) T.n_len (by decide +kernel) (pa_cons (pv 5) pa_nil)) pa_nil)) (blkOk_by (own := [("p", 9)]) (N := ["ladder", "state", "number", "letters", "first", "rows", "ends", "own", "found", "p", "row", "entry", "price", "last", "end"]) (sc := defScope s_l_moved) (by decide +kernel)) (fun _ _ _ _ _ => (pg_name (i := 9) sc_l_moved.nd rfl (.inl rfl))) (fun _ _ _ _ _ => pts_nil) (fun _ _ _ _ _ => (pe_ifExp (PW.pt (pw_and (pt_cmpR op_eq (pv 9) (pv 1) (nomark _)) (pw_and1 (pt_cmpR op_notN (pe_ix (kIxT (K := K)) (pv 6) (pv 9) (fun _ _ => rfl)) pe_non (nomark _))))) (pe_op op_sub (pe_ix (kIxT (K := K)) (pv 6) (pv 9) (fun _ _ => rfl)) (pv 2)) (pe_ix (kIxT (K := K)) (pv 6) (pv 9) (fun _ _ => rfl))))) pa_nil)))
  (pss_one (ps_ret (pe_tup (pa_cons (pv 3) (pa_cons (pv 4) (pa_cons (pe_callTy (kTup (K := K)) (by rfl) T.n_tuple (by decide +kernel) (pa_cons (pv 8) pa_nil)) (pa_cons (pv 13) pa_nil)))))))))))))), ?_⟩
    refine evq_tup4 (evd_v 0 rfl hx) fun u3 u4 u5 u6 H1 s1 k3 k4 k5 k6 => ?_
    cases k4
    have grow : ∀ s, s < L.rows.length → (L.rows.map rowD)[s]? = some (rowD (rowOf L s)) := fun s hs => by rw [List.getElem?_map, rowOf_get hs]; rfl
    have gtip : ∀ s, s < L.rows.length → (L.ends.map tipD)[s]? = some (tipD (tip L.ends s)) := fun s hs => by rw [List.getElem?_map, tip_get wf hs]; rfl
    have rl : ∀ s, s < L.rows.length → (rowOf L s).length ≤ 6 := fun s hs => by rw [wf.row _ (rowOf_mem hs)]; exact l6
    have c1 : EvL K (tLc (iTup K (tOp (rIxT K) (tVar 5) (tVar 1))) (gName 11) (tAnd (tTest (tOp rNotN (tVar 11) (tC .non))) (tTest (tOp rNe (tOp (rIxT K) (tVar 11) (tC (.int 1))) (tVar 1)))) (tOp (rIxT K) (tVar 11) (tC (.int 0))) [11])
        [some x, some (.int (s0 : Nat)), some (.int 1), some u3, some (.int L.first), some u5, some u6, none, none, none, none, none, none, none, none] H1 ((ownR s0 (rowOf L s0)).map .int) := by
      refine EvL.is (evl_lc (i := 11) (evi_tup (evd_ixT (i := s0) (evd_v 5 rfl k5) (evd_v 1 rfl (.int _)) (grow s0 hs0))).same (by rw [List.length_map]; have := rl s0 hs0; omega) (ownF s0) fun d xe H2 hd s2 dxe => ?_) (own_eq s0 _)
      obtain ⟨e, he, rfl⟩ := List.mem_map.mp hd
      have v11 : EvD K (tVar 11) [some x, some (.int (s0 : Nat)), some (.int 1), some u3, some (.int L.first), some u5, some u6, none, none, none, none, some xe, none, none, none] H2 (entD e) := evd_v 11 rfl dxe
      cases e with
      | none => exact evb_is (evb_and (a := false) (b := true) (evb_test (evd_notN v11)) fun z => nomatch z) rfl
      | some pt =>
        obtain ⟨p, t⟩ := pt
        have tst : EvB (tAnd (tTest (tOp rNotN (tVar 11) (tC .non))) (tTest (tOp rNe (tOp (rIxT K) (tVar 11) (tC (.int 1))) (tVar 1)))) [some x, some (.int (s0 : Nat)), some (.int 1), some u3, some (.int L.first), some u5, some u6, none, none, none, none, some xe, none, none, none] H2 (!decide ((t : Int) = (s0 : Int))) :=
          evb_is (evb_and (a := true) (b := !decide ((t : Int) = (s0 : Int))) (evb_test (evd_notN v11)) fun _ => evb_test (evd_neI (evd_ixT (i := 1) v11 evd_int rfl) (evd_v 1 rfl (.int _)))) (by simp)
        show match (if (t : Int) = (s0 : Int) then none else some (PyData.int p)) with
          | none => _
          | some e => _
        by_cases c : (t : Int) = (s0 : Int)
        · rw [if_pos c]
          rw [decide_eq_true c] at tst
          exact tst
        · rw [if_neg c]
          rw [decide_eq_false c] at tst
          exact ⟨tst, evd_ixT (i := 0) v11 evd_int rfl⟩
    have c2 : EvL K (tLc (iList K (tLst (tCons (tOp (rIxT K) (tVar 6) (tVar 1)) tNil))) (gName 14) (tTest (tOp rNotN (tVar 14) (tC .non))) (tVar 14) [14])
        [some x, some (.int (s0 : Nat)), some (.int 1), some u3, some (.int L.first), some u5, some u6, none, none, none, none, none, none, none, none] H1 ((tip L.ends s0).toList.map .int) := by
      refine EvL.is (evl_lc (i := 14) (evi_list (evl_lst (eva_cons (evd_ixT (i := s0) (evd_v 6 rfl k6) (evd_v 1 rfl (.int _)) (gtip s0 hs0)) eva_nil) (by simp))) (by simp) someF fun d xe H2 hd s2 dxe => ?_) (some_eq _)
      simp only [List.mem_singleton] at hd
      subst hd
      have v14 : EvD K (tVar 14) [some x, some (.int (s0 : Nat)), some (.int 1), some u3, some (.int L.first), some u5, some u6, none, none, none, none, none, none, none, some xe] H2 (tipD (tip L.ends s0)) := evd_v 14 rfl dxe
      cases k : tip L.ends s0 with
      | none => rw [k] at v14; exact evb_is (evb_test (evd_notN v14)) rfl
      | some c => rw [k] at v14; exact ⟨evb_is (evb_test (evd_notN v14)) rfl, v14⟩
    refine evq_setL (K := K) (EvL.is (evl_cat (EvL.ls c1) (EvL.ls c2) (by
      rw [List.length_map, List.length_map]
      have h1 : (ownR s0 (rowOf L s0)).length ≤ (rowOf L s0).length := List.length_filterMap_le _ _
      have h2 : (tip L.ends s0).toList.length ≤ 1 := by cases tip L.ends s0 <;> simp
      have := rl s0 hs0
      omega)) (List.map_append).symm) fun p7 x7 H2 hp7 s2 e7 d7 => ?_
    have ex7 := d7.of_ints
    subst ex7
    generalize hown : ownR s0 (rowOf L s0) ++ (tip L.ends s0).toList = own at *
    have s12 := s1.trans s2
    have sq7 : SqL K H2 p7 (own.map V.int) := .inl (.inl e7)
    have finish : ∀ H3, Same H2 H3 → s0 ≠ 0 → (∀ y ∈ own, 1 ≤ y) → ∀ D : Ends, (∀ v H', D.rt v H' = Q v H') →
        (tSeq (tAsg (tLst tNil) (gName 8)) (tSeq (tFor (iRng1 (tCons (tCB (rLenS K) (tCons (tVar 5) tNil)) tNil)) (gName 9)
          (tSeq (tAsg (tLst tNil) (gName 10)) (tSeq (tFor (iTup K (tOp (rIxT K) (tVar 5) (tVar 9))) (gName 11)
            (tSeq (tAsg (tIf (tTest (tOp rIsN (tVar 11) (tC .non))) (tC .non) (tOp (rI0 fun i j => .int (i - j)) (tOp (rI0 fun i j => .int (i + j)) (tOp (rIxT K) (tVar 11) (tC (.int 0))) (tOp (rI CMul fun i j => .int (i * j)) (tVar 2) (tCB rInt1 (tCons (tOp rEq (tOp (rIxT K) (tVar 11) (tC (.int 1))) (tVar 1)) tNil)))) (tOp (rI CMul fun i j => .int (i * j)) (tVar 2) (tCB rInt1 (tCons (tOp rEq (tVar 9) (tVar 1)) tNil))))) (gName 12))
              (tDrop (tBM K "list" rAppend (tVar 10) (tCons (tIf (tTest (tOp rIsN (tVar 11) (tC .non))) (tC .non) (tTup (tCons (tVar 12) (tCons (tOp (rIxT K) (tVar 11) (tC (.int 1))) tNil)))) tNil)))))
            (tDrop (tBM K "list" rAppend (tVar 8) (tCons (tCB (rTupS K) (tCons (tVar 10) tNil)) tNil))))))
          (tSeq (tAsg (tCB (rTupS K) (tCons (tLc (iRng1 (tCons (tCB (rLenS K) (tCons (tVar 5) tNil)) tNil)) (gName 9) tYes (tIf (tAnd (tTest (tOp rEq (tVar 9) (tVar 1))) (tTest (tOp rNotN (tOp (rIxT K) (tVar 6) (tVar 9)) (tC .non)))) (tOp (rI0 fun i j => .int (i - j)) (tOp (rIxT K) (tVar 6) (tVar 9)) (tVar 2)) (tOp (rIxT K) (tVar 6) (tVar 9))) [9]) tNil)) (gName 13))
            (tRet (tTup (tCons (tVar 3) (tCons (tVar 4) (tCons (tCB (rTupS K) (tCons (tVar 8) tNil)) (tCons (tVar 13) tNil))))))))) D
          [some x, some (.int (s0 : Nat)), some (.int 1), some u3, some (.int L.first), some u5, some u6, some (.ref p7), none, none, none, none, none, none, none] H3 := by
      intro H3 s3 h0 hown1 D hD
      have s13 := s12.trans s3
      have k35 := k5.mono (s2.trans s3)
      have k36 := k6.mono (s2.trans s3)
      have k33 := k3.mono (s2.trans s3)
      refine evq_setL (K := K) (ds := []) (evl_lst eva_nil (by simp)) fun p8 x8 H4 hp8 s4 e8 d8 => ?_
      cases d8
      have lrows : (L.rows.map rowD).length = L.rows.length := List.length_map ..
      refine evq_for (K := K) (evi_rangeT (n := L.rows.length) (evd_is (evd_lenT (evd_v 5 rfl (k35.mono s4))) (by rw [lrows])) (by omega)) (fun _ i σ' H' => ∃ (x9 x10 x11 x12 : Option V) (acc : List V), σ' = [some x, some (.int (s0 : Nat)), some (.int 1), some u3, some (.int L.first), some u5, some u6, some (.ref p7), some (.ref p8), x9, x10, x11, x12, none, none] ∧ Same H3 H' ∧ H' p8 = some (.lst acc) ∧ DqAll K H' acc (((List.range i).map fun j => (rowOf L j).map (moveE s0 j)).map rowD)) (fun _ _ _ _ _ _ _ => trivial)
        (fun Hb sb => ⟨none, none, none, none, [], rfl, s4.trans sb, sb _ _ e8, .nil⟩) (fun Hb i d σ' H' xv H'' sb hd ⟨x9, x10, x11, x12, acc, eσ, t1, t2, t3⟩ s5 dx => ?_) fun Hb σ' H' sb ⟨x9, x10, x11, x12, acc, eσ, t1, t2, t3⟩ => ?_
      · subst eσ
        obtain ⟨hi, rfl⟩ := nats_get hd
        cases dx
        refine evq_setL (K := K) (ds := []) (evl_lst eva_nil (by simp)) fun p10 y10 H6 hp10 s6 e10 d10 => ?_
        cases d10
        have t16 := t1.trans (s5.trans s6)
        have esl : ((rowOf L i).map entD).length = (rowOf L i).length := List.length_map ..
        refine evq_for (K := K) (evi_tup (evd_ixT (i := i) (evd_v 5 rfl (k35.mono t16)) (evd_v 9 rfl (.int _)) (grow i hi))) (fun Hb i' σ' H' => ∃ (x11 x12 : Option V) (ar : List V), σ' = [some x, some (.int (s0 : Nat)), some (.int 1), some u3, some (.int L.first), some u5, some u6, some (.ref p7), some (.ref p8), some (.int (i : Nat)), some (.ref p10), x11, x12, none, none] ∧ Same H'' H' ∧ Kp Hb H' ∧ H' p10 = some (.lst ar) ∧ DqAll K H' ar ((((rowOf L i).take i').map (moveE s0 i)).map entD))
          (fun _ _ _ _ _ _ ⟨_, _, _, _, _, kp, _⟩ => kp) (fun Hc sc => ⟨x11, x12, [], rfl, s6.trans sc, Kp.refl _, sc _ _ e10, .nil⟩) (fun Hc j d σ' H7 xe H8 sc hd ⟨x11, x12, ar, eσ, v1, v2, v3, v4⟩ s8 dxe => ?_) fun Hc σ' H7 sc ⟨x11, x12, ar, eσ, v1, v2, v3, v4⟩ => ?_
        · subst eσ
          rw [List.getElem?_map] at hd
          obtain ⟨e, he, rfl⟩ : ∃ e, (rowOf L i)[j]? = some e ∧ d = entD e := by
            cases k : (rowOf L i)[j]? with
            | none => rw [k] at hd; cases hd
            | some e => rw [k] at hd; exact ⟨e, rfl, (Option.some.inj hd).symm⟩
          have v11 : ∀ {x12 : Option V} {H9}, Same H8 H9 → EvD K (tVar 11) [some x, some (.int (s0 : Nat)), some (.int 1), some u3, some (.int L.first), some u5, some u6, some (.ref p7), some (.ref p8), some (.int (i : Nat)), some (.ref p10), some xe, x12, none, none] H9 (entD e) := fun s => evd_v 11 rfl (dxe.mono s)
          have la : ar.length ≤ 6 := by
            have := rl i hi
            have := List.length_take (i := j) (l := rowOf L i)
            rw [v4.length, List.length_map, List.length_map]
            omega
          have tk : ((rowOf L i).take (j + 1)).map (moveE s0 i) = ((rowOf L i).take j).map (moveE s0 i) ++ [moveE s0 i e] := by
            rw [List.take_add_one, he, List.map_append]; rfl
          have done : ∀ (x12 : V) (v : V) (H10 : Hp), Same H8 H10 → Dq K H10 v (entD (moveE s0 i e)) → ∃ (y11 y12 : Option V) (ar' : List V), [some x, some (.int (s0 : Nat)), some (.int 1), some u3, some (.int L.first), some u5, some u6, some (.ref p7), some (.ref p8), some (.int (i : Nat)), some (.ref p10), some xe, some x12, none, none] = [some x, some (.int (s0 : Nat)), some (.int 1), some u3, some (.int L.first), some u5, some u6, some (.ref p7), some (.ref p8), some (.int (i : Nat)), some (.ref p10), y11, y12, none, none] ∧
              Same H'' (upd H10 p10 (.lst (ar ++ [v]))) ∧ Kp Hc (upd H10 p10 (.lst (ar ++ [v]))) ∧ (upd H10 p10 (.lst (ar ++ [v]))) p10 = some (.lst ar') ∧ DqAll K (upd H10 p10 (.lst (ar ++ [v]))) ar' ((((rowOf L i).take (j + 1)).map (moveE s0 i)).map entD) := fun x12 v H10 s10 p10' => by
            have e10' := (s8.trans s10) _ _ v3
            refine ⟨_, _, ar ++ [v], rfl, same_mut (v1.trans (s8.trans s10)) hp10, ((v2.trans (.of (s8.trans s10)))).trans (.updL e10'), upd_same, ?_⟩
            rw [tk, List.map_append]
            exact ((v4.mono (s8.trans s10)).kp (.updL e10')).snoc (p10'.kp (.updL e10'))
          cases e with
          | none =>
            refine evq_setD (K := K) (d := .none) (evp_if (b := true) (evb_test (evd_isN (v11 (Same.refl _)))) (fun _ => evd_non) fun z => nomatch z) fun v12 H9 s9 p12 => ?_
            exact evs_append (K := K) ((s8.trans s9) _ _ v3) (by omega) (evr_v 10 rfl) (evp_if (b := true) (evb_test (evd_isN (v11 s9))) (fun _ => evd_non) fun z => nomatch z) fun v H10 s10 p10' => done v12 v H10 (s9.trans s10) p10'
          | some pt =>
            obtain ⟨p, t⟩ := pt
            refine evq_setD (K := K) (d := .int (p + at0 s0 t - at0 s0 i)) (evp_if (b := false) (evb_test (evd_isN (v11 (Same.refl _)))) (fun z => nomatch z) fun _ => evd_is (evd_ar (g := fun i j => i - j) (evd_ar (g := fun i j => i + j) (evd_ixT (i := 0) (v11 (Same.refl _)) evd_int rfl)
              (evd_arC (g := fun i j => i * j) (evd_v 2 rfl (.int 1)) (evd_intB (evd_eqI (evd_ixT (i := 1) (v11 (Same.refl _)) evd_int rfl) (evd_v 1 rfl (.int _)))) (.inl ⟨by decide, by decide⟩)))
              (evd_arC (g := fun i j => i * j) (evd_v 2 rfl (.int 1)) (evd_intB (evd_eqI (evd_v 9 rfl (.int (i : Nat))) (evd_v 1 rfl (.int (s0 : Nat))))) (.inl ⟨by decide, by decide⟩))) (by rw [at0_b, at0_b, Int.one_mul, Int.one_mul])) fun v12 H9 s9 p12 => ?_
            cases p12
            exact evs_append (K := K) ((s8.trans s9) _ _ v3) (by omega) (evr_v 10 rfl) (evp_if (b := false) (evb_test (evd_isN (v11 s9))) (fun z => nomatch z) fun _ => evd_tup (eva_cons (evd_v 12 rfl (.int _)) (eva_cons (evd_ixT (i := 1) (v11 s9) evd_int rfl) eva_nil)) (by simp)) fun v H10 s10 p10' => done _ v H10 (s9.trans s10) p10'
        · subst eσ
          rw [esl, List.take_length] at v4
          have t17 := t1.trans (s5.trans v1)
          have e8' := v1 _ _ (s5 _ _ t2)
          have la : acc.length ≤ 60 := by rw [t3.length, List.length_map, List.length_map, List.length_range]; omega
          refine evs_append (K := K) e8' (by omega) (evr_v 8 rfl) (evd_tupleLs (.inl (.inl v3)) v4 (evr_v 10 rfl)) fun v H9 s9 p9 => ?_
          have e89 := s9 _ _ e8'
          refine ⟨_, _, _, _, acc ++ [v], rfl, same_mut (t17.trans s9) hp8, upd_same, ?_⟩
          rw [List.range_succ, List.map_append, List.map_append]
          exact ((((t3.mono s5).mono v1).mono s9).kp (.updL e89)).snoc (p9.kp (.updL e89))
      · subst eσ
        rw [nats_len] at t3
        have k5' := k35.mono t1
        have k6' := k36.mono t1
        have comp : EvL K (tLc (iRng1 (tCons (tCB (rLenS K) (tCons (tVar 5) tNil)) tNil)) (gName 9) tYes (tIf (tAnd (tTest (tOp rEq (tVar 9) (tVar 1))) (tTest (tOp rNotN (tOp (rIxT K) (tVar 6) (tVar 9)) (tC .non)))) (tOp (rI0 fun i j => .int (i - j)) (tOp (rIxT K) (tVar 6) (tVar 9)) (tVar 2)) (tOp (rIxT K) (tVar 6) (tVar 9))) [9])
            [some x, some (.int (s0 : Nat)), some (.int 1), some u3, some (.int L.first), some u5, some u6, some (.ref p7), some (.ref p8), x9, x10, x11, x12, none, none] H' (((List.range L.rows.length).map fun j => (tip L.ends j).map fun c => c - at0 s0 j).map tipD) := by
          refine EvL.is (evl_map (i := 9) (evi_range1 (n := L.rows.length) (evd_is (evd_lenT (evd_v 5 rfl k5')) (by rw [lrows])) (by omega)).same (by rw [nats_len]; omega) (fun d => match d with | .int j => tipD ((tip L.ends j.toNat).map fun c => c - at0 s0 j.toNat) | _ => .none) fun d xe H7 hd s7 dxe => ?_) ?_
          · obtain ⟨j, hj, rfl⟩ := List.mem_map.mp hd
            have hj := List.mem_range.mp hj
            cases dxe
            show EvD K _ _ H7 (tipD ((tip L.ends ((j : Nat) : Int).toNat).map fun c => c - at0 s0 ((j : Nat) : Int).toNat))
            rw [Int.toNat_natCast]
            have et : EvD K (tOp (rIxT K) (tVar 6) (tVar 9)) [some x, some (.int (s0 : Nat)), some (.int 1), some u3, some (.int L.first), some u5, some u6, some (.ref p7), some (.ref p8), some (.int (j : Nat)), x10, x11, x12, none, none] H7 (tipD (tip L.ends j)) := evd_ixT (i := j) (evd_v 6 rfl (k6'.mono s7)) (evd_v 9 rfl (.int _)) (gtip j hj)
            have tst : EvB (tAnd (tTest (tOp rEq (tVar 9) (tVar 1))) (tTest (tOp rNotN (tOp (rIxT K) (tVar 6) (tVar 9)) (tC .non)))) [some x, some (.int (s0 : Nat)), some (.int 1), some u3, some (.int L.first), some u5, some u6, some (.ref p7), some (.ref p8), some (.int (j : Nat)), x10, x11, x12, none, none] H7 (decide ((j : Int) = (s0 : Int)) && !isNone (tipD (tip L.ends j))) :=
              evb_and (evb_test (K := K) (evd_eqI (evd_v 9 rfl (.int (j : Nat))) (evd_v 1 rfl (.int (s0 : Nat))))) fun _ => evb_test (evd_notN et)
            refine evp_if tst (fun hb => ?_) fun hb => ?_
            · cases k : tip L.ends j with
              | none => rw [k] at hb; simp [tipD, isNone] at hb
              | some c =>
                rw [k] at hb et
                have hj2 : j = s0 := by
                  simp only [Bool.and_eq_true, decide_eq_true_eq] at hb
                  omega
                subst hj2
                have z : at0 j j = 1 := if_pos rfl
                refine evd_is (evd_ar (g := fun i j => i - j) et (evd_v 2 rfl (.int 1))) ?_
                rw [Option.map_some, z]; rfl
            · cases k : tip L.ends j with
              | none => rw [k] at et; exact et
              | some c =>
                rw [k] at hb et
                have hj2 : ¬ j = s0 := by
                  simp [tipD, isNone] at hb
                  omega
                have z : at0 s0 j = 0 := if_neg hj2
                refine evd_is et ?_
                rw [Option.map_some, z, Int.sub_zero]
          · unfold nats
            rw [List.map_map, List.map_map]
            refine List.map_congr_left fun j _ => ?_
            show tipD ((tip L.ends ((j : Nat) : Int).toNat).map fun c => c - at0 s0 ((j : Nat) : Int).toNat) = _
            rw [Int.toNat_natCast]; rfl
        refine evq_setD (K := K) (evd_tupleL comp) fun v13 H7 s7 p13 => ?_
        have t17 := t1.trans s7
        refine evs_retD (K := K) (d := ladD lt (moveL s0 L)) (evd_tup (eva_cons (evd_v 3 rfl (k33.mono t17)) (eva_cons (evd_v 4 rfl (.int _)) (eva_cons (evd_tupleLs (.inl (.inl (s7 _ _ t2))) (t3.mono s7) (evr_v 8 rfl)) (eva_cons (evd_v 13 rfl p13) eva_nil)))) (by simp)) fun v H8 s8 p8 => ?_
        rw [hD]
        refine q1 v H8 (s13.trans (t17.trans s8)) h0 p8 ⟨bd.f0, by have := bd.f1; show L.first ≤ 4; omega, fun r hr p t hm => ?_, fun c hc => ?_⟩
        · obtain ⟨j, hj, rfl⟩ := List.mem_map.mp hr
          have hj := List.mem_range.mp hj
          obtain ⟨e, he, ee⟩ := List.mem_map.mp hm
          cases e with
          | none => cases ee
          | some y =>
            obtain ⟨p0, t0⟩ := y
            have ep : p0 + at0 s0 t0 - at0 s0 j = p := congrArg Prod.fst (Option.some.inj ee)
            have b := bd.ent _ (getD_mem hj) p0 t0 he
            have h1 : 0 ≤ at0 s0 t0 ∧ at0 s0 t0 ≤ 1 := by unfold at0; split <;> omega
            by_cases c : j = s0
            · subst c
              have z : at0 j j = 1 := if_pos rfl
              rw [z] at ep
              by_cases c2 : t0 = j
              · subst c2
                rw [z] at ep
                omega
              · have hm : p0 ∈ own := by
                  rw [← hown]
                  refine List.mem_append_left _ ?_
                  unfold ownR
                  rw [List.mem_filterMap]
                  exact ⟨some (p0, t0), he, by simp [c2]⟩
                have := hown1 p0 hm
                omega
            · have z : at0 s0 j = 0 := if_neg c
              omega
        · obtain ⟨j, hj, ee⟩ := List.mem_map.mp hc
          have hj := List.mem_range.mp hj
          cases k : tip L.ends j with
          | none => rw [k] at ee; cases ee
          | some c0 =>
            rw [k] at ee
            have ec : c0 - at0 s0 j = c := Option.some.inj ee
            have b := bd.tip c0 (by have := tip_get wf hj; rw [k] at this; exact List.mem_of_getElem? this)
            by_cases cj : j = s0
            · subst cj
              have z : at0 j j = 1 := if_pos rfl
              have hm : c0 ∈ own := by
                rw [← hown]
                refine List.mem_append_right _ ?_
                rw [k]; simp
              have := hown1 c0 hm
              omega
            · have z : at0 s0 j = 0 := if_neg cj
              omega
    have ret0 : ∀ H3, Same H2 H3 → Q .non H3 := fun H3 s3 => q0 H3 (s12.trans s3)
    have t0 : EvB (tTest (tOp rEq (tVar 1) (tC (.int 0)))) [some x, some (.int (s0 : Nat)), some (.int 1), some u3, some (.int L.first), some u5, some u6, some (.ref p7), none, none, none, none, none, none, none] H2 (decide ((s0 : Int) = 0)) := evb_test (evd_eqI (evd_v (K := K) 1 rfl (.int _)) evd_int)
    have t1 : EvB (tTest (tOp (rEqD K) (tVar 7) (tLst tNil))) [some x, some (.int (s0 : Nat)), some (.int 1), some u3, some (.int L.first), some u5, some u6, some (.ref p7), none, none, none, none, none, none, none] H2 (decide (own.map PyData.int = [])) := evb_test (evd_eqNil (n := 0) sq7 (DqAll.ints own) (fun d hd => by obtain ⟨k, _, rfl⟩ := List.mem_map.mp hd; exact good_int k) (by decide) (evr_v 7 rfl))
    by_cases c0 : own = []
    · refine evq_ifn (b := true) (evb_is (evb_or t0 fun _ => evb_or (a := true) (b := true) (evb_is t1 (by rw [c0]; rfl)) fun z => nomatch z) (by simp)) (fun _ H3 s3 => ret0 H3 s3) fun z => nomatch z
    · obtain ⟨mn, hmn⟩ := isMin_ex own c0
      have t2 : EvB (tTest (tOp (rI0 fun i j => .bl (decide (i < j))) (tCB (rMin K) (tCons (tVar 7) tNil)) (tVar 2))) [some x, some (.int (s0 : Nat)), some (.int 1), some u3, some (.int L.first), some u5, some u6, some (.ref p7), none, none, none, none, none, none, none] H2 (decide (mn < 1)) := evb_test (evd_lt (g := fun i j => decide (i < j)) (evd_minLs sq7 hmn (evr_v 7 rfl)) (evd_v 2 rfl (.int 1)))
      refine evq_ifn (b := decide ((s0 : Int) = 0) || (false || decide (mn < 1))) (evb_or t0 fun _ => evb_or (evb_is t1 (by simp [c0])) fun _ => t2) (fun _ H3 s3 => ret0 H3 s3) fun hb H3 s3 => ?_
      simp only [Bool.or_eq_false_iff, decide_eq_false_iff_not, Bool.false_or] at hb
      exact finish H3 s3 (by omega) (fun y hy => by have := hmn.2 y hy; omega) _ fun v H' => rfl
end
end K96

/-! what the law's early test finds: least costs by rounds, all states come to -/
namespace Ladm
open KD
def lvAt (lv : List (Option Int)) (s : Nat) : Option Int := (lv[s]?).getD none
def rel (row : List Ent) (lv : List (Option Int)) : List Int := row.filterMap fun e => e.bind fun x => (lvAt lv x.2).map (x.1 + ·)
def relC (row : List Ent) (lv : List (Option Int)) (s : Nat) : List Int := rel row lv ++ (lvAt lv s).toList
def Zr (lv : List (Option Int)) (s : Nat) : Prop := lvAt lv s = some 0
instance (lv : List (Option Int)) (s : Nat) : Decidable (Zr lv s) := inferInstanceAs (Decidable (_ = _))
def NonNeg (lv : List (Option Int)) : Prop := ∀ s v, lvAt lv s = some v → 0 ≤ v
theorem mem_rel {row : List Ent} {lv : List (Option Int)} {c : Int} : c ∈ rel row lv ↔ ∃ p t r, some (p, t) ∈ row ∧ lvAt lv t = some r ∧ p + r = c := by
  unfold rel
  rw [List.mem_filterMap]
  constructor
  · rintro ⟨e, he, h⟩
    cases e with
    | none => cases h
    | some x =>
      obtain ⟨p, t⟩ := x
      simp only [Option.bind_some, Option.map_eq_some_iff] at h
      obtain ⟨r, h1, h2⟩ := h
      exact ⟨p, t, r, he, h1, h2⟩
  · rintro ⟨p, t, r, h1, h2, h3⟩
    exact ⟨some (p, t), h1, by simp [h2, h3]⟩
theorem lvAt_set {lv : List (Option Int)} {s t : Nat} {c : Option Int} (hs : s < lv.length) : lvAt (lv.set s c) t = if t = s then c else lvAt lv t := by
  unfold lvAt
  by_cases e : t = s
  · subst e
    rw [if_pos rfl, List.getElem?_set_self hs]; rfl
  · rw [if_neg e, List.getElem?_set_ne (fun z => e z.symm)]
/-- what is put: none, or the least of what there is -/
def Put (ns : List Int) (c : Option Int) : Prop := (ns = [] ∧ c = none) ∨ ∃ m, c = some m ∧ IsMin ns m
section
variable {E : ES} {F : FS} {n : Nat} {B : Int} {row : Nat → List Ent}
theorem relC_nonneg (R : RowsOf E F n B row) {lv : List (Option Int)} (h : NonNeg lv) {s : Nat} (hs : s < n) {c : Int} (hc : c ∈ relC (row s) lv s) : 0 ≤ c := by
  rcases List.mem_append.mp hc with k | k
  · obtain ⟨p, t, r, h1, h2, h3⟩ := mem_rel.mp k
    have := R.pr s p t hs h1
    have := h t r h2
    omega
  · cases e : lvAt lv s with
    | none => rw [e] at k; simp at k
    | some v =>
      rw [e] at k
      simp at k
      have := h s v e
      omega
theorem put_step (R : RowsOf E F n B row) {lv : List (Option Int)} (hl : lv.length = n) (h : NonNeg lv) {s : Nat} (hs : s < n) {c : Option Int} (hp : Put (relC (row s) lv s) c) :
    NonNeg (lv.set s c) ∧ (∀ t, Zr lv t → Zr (lv.set s c) t) ∧ ((∃ a t, E s a = some (0, t) ∧ Zr lv t) → Zr (lv.set s c) s) := by
  have hs' : s < lv.length := by omega
  have zero : (0 : Int) ∈ relC (row s) lv s → c = some 0 := fun h0 => by
    rcases hp with ⟨e, _⟩ | ⟨m, e, hm⟩
    · rw [e] at h0; simp at h0
    · have h1 := hm.2 0 h0
      have h2 := relC_nonneg R h hs hm.1
      rw [e]
      congr 1
      omega
  refine ⟨fun t v e => ?_, fun t ht => ?_, fun ⟨a, t, ea, zt⟩ => ?_⟩
  · rw [lvAt_set hs'] at e
    by_cases k : t = s
    · rw [if_pos k] at e
      rcases hp with ⟨_, ec⟩ | ⟨m, ec, hm⟩
      · rw [ec] at e; cases e
      · rw [ec] at e
        cases e
        exact relC_nonneg R h hs hm.1
    · rw [if_neg k] at e
      exact h t v e
  · unfold Zr
    rw [lvAt_set hs']
    by_cases k : t = s
    · rw [if_pos k]
      subst k
      refine zero (List.mem_append_right _ ?_)
      rw [show lvAt lv t = some 0 from ht]; simp
    · rw [if_neg k]; exact ht
  · unfold Zr
    rw [lvAt_set hs', if_pos rfl]
    exact zero (List.mem_append_left _ (mem_rel.mpr ⟨0, t, 0, ent_row R hs ea, zt, rfl⟩))
theorem run_nonneg (R : RowsOf E F n B row) (hin : ∀ s a p t, s < n → E s a = some (p, t) → t < n) : ∀ (w : List Nat) (s : Nat) (c : Int), s < n → run E F s w = some c → 0 ≤ c := by
  intro w
  induction w with
  | nil => intro s c hs e; exact (R.tip s c hs e).1
  | cons a w ih =>
    intro s c hs e
    cases k : E s a with
    | none => rw [run_none k] at e; cases e
    | some x =>
      obtain ⟨p, t⟩ := x
      rw [run_some k] at e
      cases k2 : run E F t w with
      | none => rw [k2] at e; cases e
      | some c' =>
        rw [k2] at e
        have := ih t c' (hin s a p t hs k) k2
        have := (R.pr s p t hs (ent_row R hs k)).1
        have : p + c' = c := by simpa using e
        omega
theorem next_zero (R : RowsOf E F n B row) (hin : ∀ s a p t, s < n → E s a = some (p, t) → t < n) {Z : Nat → Prop} (hZ : ∀ s, s < n → F s = some 0 → Z s) : ∀ (w : List Nat) (s : Nat), s < n → run E F s w = some 0 → ¬ Z s → ∃ s', s' < n ∧ ¬ Z s' ∧ ∃ a t, E s' a = some (0, t) ∧ Z t := by
  intro w
  induction w with
  | nil => intro s hs e h; exact absurd (hZ s hs e) h
  | cons a w ih =>
    intro s hs e h
    cases k : E s a with
    | none => rw [run_none k] at e; cases e
    | some x =>
      obtain ⟨p, t⟩ := x
      rw [run_some k] at e
      cases k2 : run E F t w with
      | none => rw [k2] at e; cases e
      | some c' =>
        rw [k2] at e
        have ht := hin s a p t hs k
        have h1 := run_nonneg R hin w t c' ht k2
        have h2 := (R.pr s p t hs (ent_row R hs k)).1
        have h3 : p + c' = 0 := by simpa using e
        have p0 : p = 0 := by omega
        have c0 : c' = 0 := by omega
        subst p0 c0
        by_cases zt : Z t
        · exact ⟨s, hs, h, a, t, k, zt⟩
        · exact ih t ht k2 zt
def cntZ (n : Nat) (lv : List (Option Int)) : Nat := ((List.range n).filter fun s => decide (Zr lv s)).length
theorem cnt_le (n : Nat) (lv : List (Option Int)) : cntZ n lv ≤ n := by
  have := List.length_filter_le (fun s => decide (Zr lv s)) (List.range n)
  rw [List.length_range] at this
  exact this
theorem cnt_more {lv lv' : List (Option Int)} (h : ∀ s, Zr lv s → Zr lv' s) {s : Nat} (hs : s < n) (h1 : ¬ Zr lv s) (h2 : Zr lv' s) : cntZ n lv + 1 ≤ cntZ n lv' := by
  have nd : (s :: (List.range n).filter fun s => decide (Zr lv s)).Nodup := by
    rw [List.nodup_cons]
    refine ⟨fun hm => ?_, List.nodup_range.filter _⟩
    exact h1 (of_decide_eq_true (List.mem_filter.mp hm).2)
  have := nodup_sub' _ ((List.range n).filter fun s => decide (Zr lv' s)) nd fun x hx => by
    rcases List.mem_cons.mp hx with e | e
    · subst e
      exact List.mem_filter.mpr ⟨List.mem_range.mpr hs, decide_eq_true h2⟩
    · obtain ⟨a, b⟩ := List.mem_filter.mp e
      exact List.mem_filter.mpr ⟨a, decide_eq_true (h x (of_decide_eq_true b))⟩
  exact this
theorem cnt_mono {lv lv' : List (Option Int)} (h : ∀ s, Zr lv s → Zr lv' s) : cntZ n lv ≤ cntZ n lv' :=
  nodup_sub' _ _ (List.nodup_range.filter _) fun x hx => by
    obtain ⟨a, b⟩ := List.mem_filter.mp hx
    exact List.mem_filter.mpr ⟨a, decide_eq_true (h x (of_decide_eq_true b))⟩
/-- a whole round: one more zero, if not all are -/
theorem round_more (R : RowsOf E F n B row) (hin : ∀ s a p t, s < n → E s a = some (p, t) → t < n) (hrest : ∀ s, s < n → ∃ w, run E F s w = some 0) {lv lv' : List (Option Int)} (hb : ∀ s, s < n → F s = some 0 → Zr lv s) (hm : ∀ s, Zr lv s → Zr lv' s)
    (hr : ∀ s, s < n → (∃ a t, E s a = some (0, t) ∧ Zr lv t) → Zr lv' s) {k : Nat} (h : k ≤ cntZ n lv ∨ ∀ s, s < n → Zr lv s) : k + 1 ≤ cntZ n lv' ∨ ∀ s, s < n → Zr lv' s := by
  rcases h with h | h
  · by_cases c : ∀ s, s < n → Zr lv s
    · exact .inr fun s hs => hm s (c s hs)
    · obtain ⟨s, hs⟩ := Classical.not_forall.mp c
      obtain ⟨hs, nz⟩ := Classical.not_imp.mp hs
      obtain ⟨w, hw⟩ := hrest s hs
      obtain ⟨s', l1, l2, l3⟩ := next_zero R hin (Z := Zr lv) hb w s hs hw nz
      have := cnt_more (n := n) hm l1 l2 (hr s' l1 l3)
      exact .inl (by omega)
  · exact .inr fun s hs => hm s (h s hs)
end
/-! all states come from the first -/
theorem scanRow_new {S : Nat → Prop} : ∀ (r : List Ent) (k k2 : Nat), scanRow k r = some k2 → (∀ p t, some (p, t) ∈ r → S t) → ∀ j, k ≤ j → j < k2 → S j
  | [], k, k2, h, _, j, h1, h2 => by
    simp only [scanRow, Option.some.injEq] at h
    omega
  | none :: r, k, k2, h, hS, j, h1, h2 => scanRow_new r k k2 h (fun p t hm => hS p t (List.mem_cons_of_mem _ hm)) j h1 h2
  | some (p, t) :: r, k, k2, h, hS, j, h1, h2 => by
    simp only [scanRow] at h
    by_cases c : t < k
    · rw [if_pos c] at h
      exact scanRow_new r k k2 h (fun p t hm => hS p t (List.mem_cons_of_mem _ hm)) j h1 h2
    · rw [if_neg c] at h
      by_cases d : t = k
      · rw [if_pos d] at h
        by_cases e : j = k
        · subst e
          rw [← d]
          exact hS p t List.mem_cons_self
        · exact scanRow_new r (k + 1) k2 h (fun p t hm => hS p t (List.mem_cons_of_mem _ hm)) j (by omega) h2
      · rw [if_neg d] at h; cases h
theorem scanRows_all {S : Nat → Prop} : ∀ (R : Rows) (i k k2 : Nat), scanRows i k R = some k2 → (∀ j, j < k → S j) → (∀ j r, R[j]? = some r → S (i + j) → ∀ p t, some (p, t) ∈ r → S t) → ∀ j, j < k2 → S j
  | [], i, k, k2, h, hS, _, j, hj => by
    simp only [scanRows, Option.some.injEq] at h
    exact hS j (by omega)
  | r :: R, i, k, k2, h, hS, hr, j, hj => by
    simp only [scanRows] at h
    by_cases c : i < k
    · rw [if_pos c] at h
      cases s : scanRow k r with
      | none => rw [s] at h; cases h
      | some k' =>
        rw [s] at h
        have h0 := hr 0 r rfl (hS i c)
        refine scanRows_all R (i + 1) k' k2 h (fun j hj => ?_) (fun j r' e sj => hr (j + 1) r' (by simpa using e) (by rw [show i + (j + 1) = i + 1 + j by omega]; exact sj)) j hj
        by_cases d : j < k
        · exact hS j d
        · exact scanRow_new r k k' s h0 j (by omega) hj
    · rw [if_neg c] at h; cases h
theorem sorted_uniq : ∀ {xs ys : List Int}, xs.Pairwise (· < ·) → ys.Pairwise (· < ·) → (∀ k, k ∈ xs ↔ k ∈ ys) → xs = ys
  | [], [], _, _, _ => rfl
  | [], y :: ys, _, _, h => by have := (h y).mpr List.mem_cons_self; simp at this
  | x :: xs, [], _, _, h => by have := (h x).mp List.mem_cons_self; simp at this
  | x :: xs, y :: ys, hx, hy, h => by
    obtain ⟨x1, x2⟩ := List.pairwise_cons.mp hx
    obtain ⟨y1, y2⟩ := List.pairwise_cons.mp hy
    have e : x = y := by
      rcases List.mem_cons.mp ((h x).mp List.mem_cons_self) with a | a
      · exact a
      · rcases List.mem_cons.mp ((h y).mpr List.mem_cons_self) with b | b
        · exact b.symm
        · have := y1 x a
          have := x1 y b
          omega
    subst e
    congr 1
    refine sorted_uniq x2 y2 fun k => ⟨fun hk => ?_, fun hk => ?_⟩
    · rcases List.mem_cons.mp ((h k).mp (List.mem_cons_of_mem _ hk)) with a | a
      · have := x1 k hk; omega
      · exact a
    · rcases List.mem_cons.mp ((h k).mpr (List.mem_cons_of_mem _ hk)) with a | a
      · have := y1 k hk; omega
      · exact a
end Ladm

set_option maxRecDepth 100000
set_option maxHeartbeats 2000000
/-! _law_early -/
namespace K96
open PySem PySem.Spec PyProof.Rows L2 KD Ladm
section
variable {K : PySem.W.Frag} {H : Hp} {σ : L2.St} {te tf ta tb : TE} {D : Ends} {u : TS} {w : World} {Q : VK}
theorem tips_dq : ∀ lv : List (Option Int), DqAll K H (lv.map tipV) (lv.map tipD)
  | [] => .nil
  | c :: cs => .cons (tipV_dq c) (tips_dq cs)
theorem evq_tupLD {i j : Nat} {ds : List PyData} {d : PyData} (h : EvL K te σ H ds) (h2 : ∀ H1, Same H H1 → EvD K tf σ H1 d) (q : ∀ p xs v H1, H p = none → Same H H1 → H1 p = some (.lst xs) → DqAll K H1 xs ds → Dq K H1 v d → u D ((σ.set i (some (.ref p))).set j (some v)) H1) :
    tSeq (tAsg (tTup (tCons te (tCons tf tNil))) (gTup K 2 (gCons (gName i) (gCons (gName j) gNil)))) u D σ H := h H (Same.refl _) _ fun p xs H1 hp s1 e1 d1 => (h2 H1 s1).use _ fun v H2 s2 p2 =>
  ⟨(by decide : 2 ≤ sizeLine), fun T hT => ⟨T, [.ref p, v], rfl, .inl (.inl upd_same), rfl, .ref p, [v], rfl, v, [], rfl, rfl, q p xs v _ hp (s1.trans (s2.trans (same_new hT))) (same_new hT _ _ (s2 _ _ e1)) ((d1.mono s2).mono (same_new hT)) (p2.mono (same_new hT))⟩⟩
theorem evq_tupLL {i j : Nat} {ds es : List PyData} (h : EvL K te σ H ds) (h2 : ∀ H1, Same H H1 → EvL K tf σ H1 es) (q : ∀ p xs p2 ys H1, H p = none → H p2 = none → p ≠ p2 → Same H H1 → H1 p = some (.lst xs) → DqAll K H1 xs ds → H1 p2 = some (.lst ys) → DqAll K H1 ys es → u D ((σ.set i (some (.ref p))).set j (some (.ref p2))) H1) :
    tSeq (tAsg (tTup (tCons te (tCons tf tNil))) (gTup K 2 (gCons (gName i) (gCons (gName j) gNil)))) u D σ H := h H (Same.refl _) _ fun p xs H1 hp s1 e1 d1 => (h2 H1 s1) H1 (Same.refl _) _ fun p2 ys H2 hp2 s2 e2 d2 =>
  ⟨(by decide : 2 ≤ sizeLine), fun T hT => ⟨T, [.ref p, .ref p2], rfl, .inl (.inl upd_same), rfl, .ref p, [.ref p2], rfl, .ref p2, [], rfl, rfl, q p xs p2 ys _ hp (s1.free hp2) (fun z => by rw [← z, e1] at hp2; cases hp2) (s1.trans (s2.trans (same_new hT))) (same_new hT _ _ (s2 _ _ e1)) ((d1.mono s2).mono (same_new hT)) (same_new hT _ _ e2) (d2.mono (same_new hT))⟩⟩
theorem lc_pop {i j a pw s : Nat} {xs zs : List V} {v : V} {g : TG} {tt : TT} {te' : TE} {vs : List Nat} (h3 : σ[i]? = some (some (.ref a))) (hw : σ[j]? = some (some (.ref pw))) (e : H pw = some (.lst (xs ++ [.int (s : Nat)])))
    (sq : SqT K (upd H pw (.lst xs)) a zs) (hv : zs[s]? = some v) (h : tLc (iTup K (tC v)) g tt te' vs σ (upd H pw (.lst xs)) Q) : tLc (iTup K (tOp (rIxT K) (tVar i) (tBM0 K "list" rPop (tVar j)))) g tt te' vs σ H Q := by
  refine ⟨.ref a, h3, .ref pw, hw, .inl ⟨rfl, _, .inl (.inl e)⟩, pw, xs ++ [.int (s : Nat)], .int (s : Nat), rfl, rfl, e, by simp, ?_⟩
  rw [List.dropLast_concat]
  exact ⟨a, zs, s, v, rfl, rfl, sq, atI_nat hv, h⟩
theorem inV_nat (t : Nat) (come : List Nat) : inV (.int (t : Nat)) (vNats come) = decide (t ∈ come) := by
  unfold inV vNats
  rw [List.any_map]
  induction come with
  | nil => rfl
  | cons c cs ih =>
    rw [List.any_cons, ih]
    show ((c : Int) == (t : Int) || decide (t ∈ cs)) = decide (t ∈ c :: cs)
    by_cases e : c = t
    · subst e; simp
    · have h1 : ((c : Int) == (t : Int)) = false := beq_eq_false_iff_ne.mpr (by omega)
      rw [h1, Bool.false_or]
      have : (t ∈ c :: cs) ↔ t ∈ cs := ⟨fun z => (List.mem_cons.mp z).resolve_left fun q => e q.symm, List.mem_cons_of_mem _⟩
      rw [decide_eq_decide.mpr this]
theorem flat_nats (come : List Nat) : (vNats come).all flatV = true := by
  unfold vNats
  rw [List.all_map, List.all_eq_true]
  intro x _; rfl
theorem evd_notInN {p : Addr} {t : Nat} {come : List Nat} (hp : H p = some (.lst (vNats come))) (ha : EvD K ta σ H (.int (t : Nat))) (hb : Ref tb σ H p) : EvD K (tOp (rIn K true) ta tb) σ H (.bool (!decide (t ∈ come))) := fun H1 s Q q => ha.run s fun v H2 s2 p2 => by
  cases p2
  refine hb H2 (s.trans s2) _ fun H3 s3 => ⟨p, vNats come, rfl, .inl (.inl (.inl ((s.trans (s2.trans s3)) _ _ hp))), rfl, flat_nats come, ?_⟩
  rw [inV_nat]
  exact q _ H3 _ (s2.trans s3) (.bl _) rfl
theorem vI_nats (ns : List Nat) : vNats ns = (ns.map fun n : Nat => (n : Int)).map V.int := by unfold vNats; rw [List.map_map]; rfl
theorem evl_sortedSet {n : Nat} {ns : List Nat} (h : EvLs K te σ H (nats' ns)) (hl : ∀ x ∈ ns, x < n) (hn : ns.length < 64) : EvL K (tCB (rSortedSet w) (tCons (tCB (rSetI K w) (tCons te tNil)) tNil)) σ H (nats' ((List.range n).filter fun x => decide (x ∈ ns))) := fun H1 s1 Q q => by
  refine h H1 s1 _ fun p xs H2 s2 e2 d2 => ?_
  have ex : xs = (ns.map fun n : Nat => (n : Int)).map V.int := by
    have : nats' ns = (ns.map fun n : Nat => (n : Int)).map PyData.int := by unfold nats'; rw [List.map_map]; rfl
    rw [this] at d2
    exact d2.of_ints
  subst ex
  refine ⟨p, _, rfl, .inl (.inl e2), by rw [List.length_map]; omega, fun p2 m hp2 hm => ?_⟩
  refine ⟨p2, _, m, rfl, upd_same, by rw [List.length_map] at hm; omega, fun ys p3 h1 h2 h3 hp3 => ?_⟩
  have s3 := same_new (o := SetO w p2 (fun j => decide (j ∈ ns.map fun n : Nat => (n : Int))) m) hp2
  have s23 := s2.trans s3
  have ey : ys = ((List.range n).filter fun x => decide (x ∈ ns)).map fun x : Nat => (x : Int) := by
    refine sorted_uniq h1 ?_ fun k => ?_
    · exact List.Pairwise.map _ (fun a b h => by omega) (List.pairwise_lt_range.filter _)
    · rw [h2, decide_eq_true_eq]
      constructor
      · intro hk
        obtain ⟨x, hx, rfl⟩ := List.mem_map.mp hk
        exact List.mem_map.mpr ⟨x, List.mem_filter.mpr ⟨List.mem_range.mpr (hl x hx), decide_eq_true hx⟩, rfl⟩
      · intro hk
        obtain ⟨x, hx, rfl⟩ := List.mem_map.mp hk
        exact List.mem_map.mpr ⟨x, of_decide_eq_true (List.mem_filter.mp hx).2, rfl⟩
  subst ey
  refine q p3 _ _ (s23.free hp3) (s23.trans (same_new hp3)) upd_same ?_
  have := vNats_dq (K := K) (H := upd (upd H2 p2 (SetO w p2 (fun j => decide (j ∈ ns.map fun n : Nat => (n : Int))) m)) p3 (.lst ((((List.range n).filter fun x => decide (x ∈ ns)).map fun x : Nat => (x : Int)).map V.int))) ((List.range n).filter fun x => decide (x ∈ ns))
  rw [← vI_nats] at this ⊢
  exact this
theorem noB_all : ∀ {n : Nat} {ds : List PyData}, (∀ d ∈ ds, Good n d) → noBAll ds = true := fun h => noBAll_of fun d hd => (h d hd).nob
/-- lists of plain data compared -/
theorem evd_eqLL {n : Nat} {ds es : List PyData} (ha : EvLs K ta σ H ds) (hb : EvLs K tb σ H es) (g1 : ∀ d ∈ ds, Good n d) (g2 : ∀ d ∈ es, Good n d) (hn : n + 2 ≤ 64) : EvD K (tOp (rEqD K) ta tb) σ H (.bool (PyData.eqvAll ds es)) := fun H1 s Q q =>
  ha H1 s _ fun p xs H2 s2 e2 d2 => hb H2 (s.trans s2) _ fun p' ys H3 s3 e3 d3 => by
    have sh : ∀ ds : List PyData, (∀ d ∈ ds, Good n d) → SeqAt.shaped (.list ds) = true := fun ds hg => by
      show (PyData.canLay0 (.list ds) && decide ((PyData.list ds).depth ≤ 64)) = true
      have d1 := depAll_of fun d hd => (hg d hd).dep
      have d2 : (PyData.list ds).depth ≤ 64 := by
        show PyData.depthAll ds + 1 ≤ 64
        omega
      rw [decide_eq_true d2, Bool.and_true]
      simp only [PyData.canLay0]
      exact layAll_of fun d hd => (hg d hd).lay
    refine ⟨.list ds, .list es, .lst (.inl (.inl (s3 _ _ e2))) (dqAll_dp ds _ (flatAll_of fun d hd => (g1 d hd).flat) (d2.mono s3)), .lst (.inl (.inl e3)) (dqAll_dp es _ (flatAll_of fun d hd => (g2 d hd).flat) d3), sh ds g1, sh es g2, ?_⟩
    have : PyData.eqv (.list ds) (.list es) = PyData.eqvAll ds es := by simp [PyData.eqv]
    rw [this]
    exact q _ H3 _ (s2.trans s3) (.bl _) rfl
end
theorem none_rel {m p : Nat} (lv : List (Option Int)) : rel (rowOf (noneLad m) p) lv = [] := by
  unfold rel rowOf noneLad
  cases p with
  | zero =>
    show List.filterMap _ (List.replicate m none) = []
    rw [List.filterMap_eq_nil_iff]
    intro e he
    rw [List.eq_of_mem_replicate he]; rfl
  | succ p => rfl
def relF (lv : List (Option Int)) : PyData → Option PyData
  | .tuple [.int p, .int t] => (lvAt lv t.toNat).map fun r => .int (p + r)
  | _ => none
theorem rel_eq (lv : List (Option Int)) (r : List Ent) : (r.map entD).filterMap (relF lv) = (rel r lv).map .int := by
  unfold rel
  rw [List.filterMap_map, List.map_filterMap]
  congr 1
  funext e
  cases e with
  | none => rfl
  | some x =>
    obtain ⟨p, t⟩ := x
    simp only [Function.comp, entD, relF, Int.toNat_natCast, Option.bind_some, Option.map_map]
    rfl
def newN (come : List Nat) (r : List Ent) : List Nat := r.filterMap fun e => e.bind fun x => if x.2 ∈ come then none else some x.2
def newF (come : List Nat) : PyData → Option PyData
  | .tuple [.int _, .int t] => if t.toNat ∈ come then none else some (.int t)
  | _ => none
theorem new_eq (come : List Nat) (r : List Ent) : (r.map entD).filterMap (newF come) = nats' (newN come r) := by
  unfold newN nats'
  rw [List.filterMap_map, List.map_filterMap]
  congr 1
  funext e
  cases e with
  | none => rfl
  | some x =>
    obtain ⟨p, t⟩ := x
    simp only [Function.comp, entD, newF, Int.toNat_natCast, Option.bind_some]
    by_cases c : t ∈ come
    · rw [if_pos c, if_pos c]; rfl
    · rw [if_neg c, if_neg c]; rfl
theorem mem_new {come : List Nat} {r : List Ent} {t : Nat} : t ∈ newN come r ↔ (∃ p, some (p, t) ∈ r) ∧ t ∉ come := by
  unfold newN
  rw [List.mem_filterMap]
  constructor
  · rintro ⟨e, he, h⟩
    cases e with
    | none => cases h
    | some x =>
      obtain ⟨p, t0⟩ := x
      simp only [Option.bind_some] at h
      by_cases c : t0 ∈ come
      · rw [if_pos c] at h; cases h
      · rw [if_neg c] at h
        cases h
        exact ⟨⟨p, he⟩, c⟩
  · rintro ⟨⟨p, he⟩, c⟩
    exact ⟨some (p, t), he, by simp [c]⟩
end K96

set_option maxRecDepth 100000
set_option maxHeartbeats 2000000
/-! _law_early, the walk -/
namespace K96
open PySem PySem.Spec PyProof.Rows L2 KD Ladm
section
variable {P : Program} {w : World} {K : PySem.W.Frag} {mg : Str → Option Value} {base : Heap}
def spEarlyL (K : PySem.W.Frag) : Sp := fun vs H Q _ => ∃ (x : V) (lt : List Str) (B : Int) (L : Lad), vs = [x] ∧ Dq K H x (ladD lt L) ∧ IsLeast lt.length L ∧ Bnd B L ∧ 1 ≤ lt.length ∧ lt.length ≤ 6 ∧ L.rows.length ≤ 60 ∧ ∀ H', Same H H' → Q (.bl true) H'
theorem ok_l_early (T : Txt K mg) : FnOk P w K mg base CX0 1 T.A_l_early.f T.A_l_early.d ["ladder"] (spEarlyL K) := by
  refine T.A_l_early.F.ok sc_l_early (fun vs H Q E h => ?_) (fun cdv A outer s H vs Q E hr h => ?_)
  · obtain ⟨_, _, _, _, rfl, _⟩ := h; rfl
  · obtain ⟨x, lt, B, L, rfl, hx, il, bd, l1, l6, hn, q⟩ := h
    refine ⟨_, ((pss_cons (ps_asg (pv 0) (kgTup (K := K) rfl (pgs_cons (pg_name (i := 1) sc_l_early.nd rfl (.inl rfl)) (pgs_cons (pg_name (i := 2) sc_l_early.nd rfl (.inl rfl)) (pgs_cons (pg_name (i := 3) sc_l_early.nd rfl (.inl rfl)) (pgs_cons (pg_name (i := 4) sc_l_early.nd rfl (.inl rfl)) pgs_nil))))))
  (pss_cons (ps_asg (pe_tup (pa_cons (pe_lc (own := [("end", 13)]) (g := gName 13) (tt := tYes) rfl sc_l_early.nd (kiTup (K := K) (pv 4)) (blkOk_by (own := [("end", 13)]) (N := ["ladder", "letters", "first", "rows", "ends", "least", "many", "turn", "p", "some", "come", "waiting", "new", "end", "entry", "number"]) (sc := defScope s_l_early) (by decide +kernel)) (fun _ _ _ _ _ => (pg_name (i := 13) sc_l_early.nd rfl (.inl rfl))) (fun _ _ _ _ _ => pts_nil) (fun _ _ _ _ _ => (pv 13))) (pa_cons pe_int pa_nil))) (kgTup (K := K) rfl (pgs_cons (pg_name (i := 5) sc_l_early.nd rfl (.inr rfl)) (pgs_cons (pg_name (i := 6) sc_l_early.nd rfl (.inl rfl)) pgs_nil))))
  (pss_cons (ps_for PassesOwn.never rfl (pi_range1 rfl T.n_range (pa_cons (pe_op op_add (pe_callB (kLen (K := K)) (by rfl) T.n_len (by decide +kernel) (pa_cons (pv 3) pa_nil)) pe_int) pa_nil)) (pg_name (i := 7) sc_l_early.nd rfl (.inl rfl))
    (pss_one (ps_for PassesOwn.never rfl (pi_range1 rfl T.n_range (pa_cons (pe_callB (kLen (K := K)) (by rfl) T.n_len (by decide +kernel) (pa_cons (pv 3) pa_nil)) pa_nil)) (pg_name (i := 8) sc_l_early.nd rfl (.inl rfl))
    (pss_cons (ps_setLc (i := 9) (own := [("entry", 14)]) (g := gName 14) rfl sc_l_early.nd rfl rfl (sw_true rfl rfl rfl (by decide +kernel)) (kiTup (K := K) (pe_ix (kIxT (K := K)) (pv 3) (pv 8) (fun _ _ => rfl))) (blkOk_by (own := [("entry", 14)]) (N := ["ladder", "letters", "first", "rows", "ends", "least", "many", "turn", "p", "some", "come", "waiting", "new", "end", "entry", "number"]) (sc := defScope s_l_early) (by decide +kernel)) (fun _ _ _ _ _ => (pg_name (i := 14) sc_l_early.nd rfl (.inl rfl))) (fun _ _ _ _ _ => pts_one (PW.pt (pw_and (pt_cmpR op_notN (pv 14) pe_non (nomark _)) (pw_and1 (pt_cmpR op_notN (pe_ix (kIxL (K := K)) (pv 5) (pe_ix (kIxT (K := K)) (pv 14) pe_int (fun _ _ => rfl)) (fun _ _ => rfl)) pe_non (nomark _)))))) (fun _ _ _ _ _ => (pe_op op_add (pe_ix (kIxT (K := K)) (pv 14) pe_int (fun _ _ => rfl)) (pe_ix (kIxL (K := K)) (pv 5) (pe_ix (kIxT (K := K)) (pv 14) pe_int (fun _ _ => rfl)) (fun _ _ => rfl)))))
  (pss_cons (ps_set (i := 9) sc_l_early.nd rfl (.inl rfl) (pe_op op_cat (pv 9) (pe_lc (own := [("number", 15)]) (g := gName 15) rfl sc_l_early.nd (kiList (K := K) (pe_lst (pa_cons (pe_ix (kIxL (K := K)) (pv 5) (pv 8) (fun _ _ => rfl)) pa_nil))) (blkOk_by (own := [("number", 15)]) (N := ["ladder", "letters", "first", "rows", "ends", "least", "many", "turn", "p", "some", "come", "waiting", "new", "end", "entry", "number"]) (sc := defScope s_l_early) (by decide +kernel)) (fun _ _ _ _ _ => (pg_name (i := 15) sc_l_early.nd rfl (.inl rfl))) (fun _ _ _ _ _ => pts_one (pt_cmpR op_notN (pv 15) pe_non (nomark _))) (fun _ _ _ _ _ => (pv 15)))))
  (pss_one (ps_asg (pe_ifExp (pt_cmpR (kNeD (K := K) (hu64 hr)) (pv 9) (pe_lst pa_nil) (nomark _)) (pe_callB (kMin (K := K)) (by rfl) T.n_min (by decide +kernel) (pa_cons (pv 9) pa_nil)) pe_non) (pg_sub (pv 5) (pv 8) set_list))))))))
  (pss_cons (ps_asg (pe_tup (pa_cons (pe_lst (pa_cons pe_int pa_nil)) (pa_cons (pe_lst (pa_cons pe_int pa_nil)) pa_nil))) (kgTup (K := K) rfl (pgs_cons (pg_name (i := 10) sc_l_early.nd rfl (.inr rfl)) (pgs_cons (pg_name (i := 11) sc_l_early.nd rfl (.inl rfl)) pgs_nil))))
  (pss_cons (ps_while PassesOwn.never (pt_cmpR (kNeD (K := K) (hu64 hr)) (pv 11) (pe_lst pa_nil) (nomark _))
    (pss_cons (ps_setLc (i := 12) (own := [("entry", 14)]) (g := gName 14) rfl sc_l_early.nd rfl rfl (sw_true rfl rfl rfl (by decide +kernel)) (kiTup (K := K) (pe_ix (kIxT (K := K)) (pv 3) (pe_bm0 PySem.F.plainAttrs_list PySem.F.slot_list_pop PySem.F.type_list_pop mt_pop (pv 11)) (fun _ _ => rfl))) (blkOk_by (own := [("entry", 14)]) (N := ["ladder", "letters", "first", "rows", "ends", "least", "many", "turn", "p", "some", "come", "waiting", "new", "end", "entry", "number"]) (sc := defScope s_l_early) (by decide +kernel)) (fun _ _ _ _ _ => (pg_name (i := 14) sc_l_early.nd rfl (.inl rfl))) (fun _ _ _ _ _ => pts_one (PW.pt (pw_and (pt_cmpR op_notN (pv 14) pe_non (nomark _)) (pw_and1 (pt_cmpR (kNotInS (K := K)) (pe_ix (kIxT (K := K)) (pv 14) pe_int (fun _ _ => rfl)) (pv 10) rfl))))) (fun _ _ _ _ _ => (pe_ix (kIxT (K := K)) (pv 14) pe_int (fun _ _ => rfl))))
  (pss_cons (ps_expr (pe_bm PySem.F.plainAttrs_list PySem.F.slot_list_extend PySem.F.type_list_extend mt_extend (pv 10) (pa_cons (pe_callB (cr_sortedSet rfl) (by rfl) T.n_sorted (by decide +kernel) (pa_cons (pe_callTy (cr_setI (K := K)) (by rfl) T.n_set (by decide +kernel) (pa_cons (pv 12) pa_nil)) pa_nil)) pa_nil)))
  (pss_one (ps_expr (pe_bm PySem.F.plainAttrs_list PySem.F.slot_list_extend PySem.F.type_list_extend mt_extend (pv 11) (pa_cons (pe_callB (cr_sortedSet rfl) (by rfl) T.n_sorted (by decide +kernel) (pa_cons (pe_callTy (cr_setI (K := K)) (by rfl) T.n_set (by decide +kernel) (pa_cons (pv 12) pa_nil)) pa_nil)) pa_nil)))))))
  (pss_cons (ps_if (PW.pt (pw_and (pt_cmpR op_eq (pe_callB (kLen (K := K)) (by rfl) T.n_len (by decide +kernel) (pa_cons (pv 3) pa_nil)) pe_int (nomark _)) (pw_and (pt_cmpR op_isN (pe_ix (kIxT (K := K)) (pv 4) pe_int (fun _ _ => rfl)) pe_non (nomark _)) (pw_and1 (pt_cmpR op_isN (pe_ix (kIxL (K := K)) (pv 5) pe_int (fun _ _ => rfl)) pe_non (nomark _)))))) (pss_one (ps_ret (pe_and (pe_cmpR op_eq (pv 2) pe_int (nomark _)) (pe_one (pe_cmpR (kEqD (K := K) (hu64 hr)) (pe_lc (own := [("entry", 14)]) (g := gName 14) rfl sc_l_early.nd (kiTup (K := K) (pe_ix (kIxT (K := K)) (pv 3) pe_int (fun _ _ => rfl))) (blkOk_by (own := [("entry", 14)]) (N := ["ladder", "letters", "first", "rows", "ends", "least", "many", "turn", "p", "some", "come", "waiting", "new", "end", "entry", "number"]) (sc := defScope s_l_early) (by decide +kernel)) (fun _ _ _ _ _ => (pg_name (i := 14) sc_l_early.nd rfl (.inl rfl))) (fun _ _ _ _ _ => pts_one (pt_cmpR op_notN (pv 14) pe_non (nomark _))) (fun _ _ _ _ _ => (pv 14))) (pe_lst pa_nil) (nomark _)))))) pss_nil)
  (pss_one (ps_ret (pe_and (pe_cmpR (kEqD (K := K) (hu64 hr)) (pe_callB (kSorted (K := K)) (by rfl) T.n_sorted (by decide +kernel) (pa_cons (pv 10) pa_nil)) (pe_listRg rfl (by rfl) T.n_list (prg_1 (by rfl) T.n_range (pe_callB (kLen (K := K)) (by rfl) T.n_len (by decide +kernel) (pa_cons (pv 3) pa_nil)))) (nomark _)) (pe_one (pe_cmpR (kEqD (K := K) (hu64 hr)) (pe_lc (own := [("number", 15)]) (g := gName 15) rfl sc_l_early.nd (kiList (K := K) (pv 5)) (blkOk_by (own := [("number", 15)]) (N := ["ladder", "letters", "first", "rows", "ends", "least", "many", "turn", "p", "some", "come", "waiting", "new", "end", "entry", "number"]) (sc := defScope s_l_early) (by decide +kernel)) (fun _ _ _ _ _ => (pg_name (i := 15) sc_l_early.nd rfl (.inl rfl))) (fun _ _ _ _ _ => pts_one (pt_cmpR op_ne (pv 15) pe_int (nomark _))) (fun _ _ _ _ _ => (pv 15))) (pe_lst pa_nil) (nomark _))))))))))))), ?_⟩
    have wf := il.wf
    have R := rowsOf wf bd
    have pos := wf.pos
    have hin : ∀ s a p t, s < L.rows.length → ent L.rows s a = some (p, t) → t < L.rows.length := fun s a p t _ e => wf.to s a p t e
    refine evq_tup4 (evd_v 0 rfl hx) fun u1 u2 u3 u4 H1 s1 k1 k2 k3 k4 => ?_
    cases k2
    have lends : (L.ends.map tipD).length = L.rows.length := by rw [List.length_map, wf.len]
    have lrows : (L.rows.map rowD).length = L.rows.length := List.length_map ..
    have grow : ∀ s, s < L.rows.length → (L.rows.map rowD)[s]? = some (rowD (rowOf L s)) := fun s hs => by rw [List.getElem?_map, rowOf_get hs]; rfl
    have gtip : ∀ s, s < L.rows.length → (L.ends.map tipD)[s]? = some (tipD (tip L.ends s)) := fun s hs => by rw [List.getElem?_map, tip_get wf hs]; rfl
    have rlen : ∀ s, s < L.rows.length → (rowOf L s).length ≤ 6 := fun s hs => by rw [wf.row _ (rowOf_mem hs)]; exact l6
    generalize hN : L.rows.length = n at *
    have c0 : EvL K (tLc (iTup K (tVar 4)) (gName 13) tYes (tVar 13) [13]) [some x, some u1, some (.int L.first), some u3, some u4, none, none, none, none, none, none, none, none, none, none, none] H1 (L.ends.map tipD) :=
      EvL.is (evl_map (i := 13) (evi_tup (evd_v 4 rfl k4)).same (by rw [lends]; omega) (fun d => d) fun d xe H2 hd s2 dxe => evd_v 13 rfl dxe) (by rw [List.map_id'])
    refine evq_tupLD (K := K) c0 (fun _ _ => evd_int) fun pl xl v6 H2 hpl s2 el dl d6 => ?_
    cases d6
    have exl : xl = L.ends.map tipV := by
      have : ∀ (cs : List (Option Int)) (vs : List V), DqAll K H2 vs (cs.map tipD) → vs = cs.map tipV := by
        intro cs
        induction cs with
        | nil => intro vs h; cases h; rfl
        | cons c cs ih =>
          intro vs h
          cases h with
          | cons h1 h2 => rw [dq_tipV h1, ih _ h2]; rfl
      exact this _ _ dl
    subst exl
    have s12 := s1.trans s2
    have nneg0 : NonNeg L.ends := fun s v e => by
      have : tip L.ends s = some v := e
      exact (bd.tip v (by
        unfold lvAt at e
        cases k : L.ends[s]? with
        | none => rw [k] at e; cases e
        | some y =>
          rw [k] at e
          have : y = some v := e
          rw [this] at k
          exact List.mem_of_getElem? k)).1
    have noneN : L = noneLad lt.length → n = 1 ∧ tip L.ends 0 = none ∧ L.first = 0 := fun e => by rw [← hN, e]; exact ⟨rfl, rfl, rfl⟩
    have relNone : L = noneLad lt.length → ∀ (lv : List (Option Int)) p, rel (rowOf L p) lv = [] := fun e lv p => by rw [e]; exact none_rel lv
    -- the rounds
    refine evq_for (K := K) (evi_rangeT (n := n + 1) (evd_is (evd_ar (g := fun i j => i + j) (evd_lenT (evd_v 3 rfl (k3.mono s2))) evd_int) (by rw [lrows]; congr 1)) (by omega)) (fun _ k σ' H' => ∃ (x7 x8 x9 : Option V) (lv : List (Option Int)), σ' = [some x, some u1, some (.int L.first), some u3, some u4, some (.ref pl), some (.int 0), x7, x8, x9, none, none, none, none, none, none] ∧ Same H1 H' ∧
      H' pl = some (.lst (lv.map tipV)) ∧ lv.length = n ∧ NonNeg lv ∧ (∀ s, s < n → tip L.ends s = some 0 → Zr lv s) ∧ (Slim L → k ≤ cntZ n lv ∨ ∀ s, s < n → Zr lv s) ∧ (L = noneLad lt.length → lvAt lv 0 = none)) (fun _ _ _ _ _ _ _ => trivial)
      (fun Hb sb => ⟨none, none, none, L.ends, rfl, s2.trans sb, sb _ _ el, by rw [wf.len, hN], nneg0, fun s _ e => e, fun _ => .inl (Nat.zero_le _), fun e => (noneN e).2.1⟩) (fun Hb k d σ' H' xv H'' sb hd ⟨x7, x8, x9, lvR, eσ, t1, t2, t3, t4, t5, t6, t7⟩ s3 dx => ?_) fun Hb σ' H' sb ⟨x7, x8, x9, lv, eσ, t1, t2, t3, t4, t5, t6, t7⟩ => ?_
    · subst eσ
      obtain ⟨hk, rfl⟩ := nats_get hd
      cases dx
      have k3b := k3.mono (t1.trans s3)
      refine evs_for (K := K) (evi_rangeT (n := n) (evd_is (evd_lenT (evd_v 3 rfl k3b)) (by rw [lrows])) (by omega)) (fun _ i σ' H' => ∃ (x8 x9 : Option V) (lv : List (Option Int)), σ' = [some x, some u1, some (.int L.first), some u3, some u4, some (.ref pl), some (.int 0), some (.int (k : Nat)), x8, x9, none, none, none, none, none, none] ∧ Same H1 H' ∧
        H' pl = some (.lst (lv.map tipV)) ∧ lv.length = n ∧ NonNeg lv ∧ (∀ s, Zr lvR s → Zr lv s) ∧ (∀ s, s < i → (∃ a t, ent L.rows s a = some (0, t) ∧ Zr lvR t) → Zr lv s) ∧ (L = noneLad lt.length → lvAt lv 0 = none)) (fun _ _ _ _ _ _ _ => trivial)
        (fun Hc sc => ⟨x8, x9, lvR, rfl, t1.trans (s3.trans sc), sc _ _ (s3 _ _ t2), t3, t4, fun s h => h, (fun s hs => absurd hs (Nat.not_lt_zero _)), t7⟩) (fun Hc i d σ' H4 xv H5 sc hd ⟨x8, x9, lv, eσ, v1, v2, v3, v4, v5, v6, v7⟩ s4 dx => ?_) fun Hc σ' H4 sc ⟨x8, x9, lv, eσ, v1, v2, v3, v4, v5, v6, v7⟩ => ?_
      · subst eσ
        obtain ⟨hi, rfl⟩ := nats_get hd
        cases dx
        have v15 := v1.trans s4
        have k35 := k3.mono v15
        have e5 := s4 _ _ v2
        have lvg : ∀ j, j < n → (lv.map tipD)[j]? = some (tipD (lvAt lv j)) := fun j hj => by
          have hj' : j < lv.length := by omega
          rw [List.getElem?_map]
          unfold lvAt
          rw [List.getElem?_eq_getElem hj']; rfl
        have ix : ∀ {σ0 : L2.St} {te : TE} {j : Nat} {H6 : Hp}, Same H5 H6 → σ0[5]? = some (some (.ref pl)) → EvD K te σ0 H6 (.int (j : Nat)) → j < n → EvD K (tOp (rIxL K) (tVar 5) te) σ0 H6 (tipD (lvAt lv j)) := fun {σ0 te j H6} s h5 ht hj =>
          evd_ixLs (i := j) (.inl (.inl (s _ _ e5))) (tips_dq lv) (evr_v 5 h5) ht (lvg j hj)
        have comp : EvL K (tLc (iTup K (tOp (rIxT K) (tVar 3) (tVar 8))) (gName 14) (tAnd (tTest (tOp rNotN (tVar 14) (tC .non))) (tTest (tOp rNotN (tOp (rIxL K) (tVar 5) (tOp (rIxT K) (tVar 14) (tC (.int 1)))) (tC .non)))) (tOp (rI0 fun i j => .int (i + j)) (tOp (rIxT K) (tVar 14) (tC (.int 0))) (tOp (rIxL K) (tVar 5) (tOp (rIxT K) (tVar 14) (tC (.int 1))))) [14])
            [some x, some u1, some (.int L.first), some u3, some u4, some (.ref pl), some (.int 0), some (.int (k : Nat)), some (.int (i : Nat)), x9, none, none, none, none, none, none] H5 ((rel (rowOf L i) lv).map .int) := by
          refine EvL.is (evl_lc (i := 14) (evi_tup (evd_ixT (i := i) (evd_v 3 rfl k35) (evd_v 8 rfl (.int _)) (grow i hi))).same (by rw [List.length_map]; have := rlen i hi; omega) (relF lv) fun d xe H6 hd s6 dxe => ?_) (rel_eq lv _)
          obtain ⟨e, he, rfl⟩ := List.mem_map.mp hd
          have v14 : EvD K (tVar 14) [some x, some u1, some (.int L.first), some u3, some u4, some (.ref pl), some (.int 0), some (.int (k : Nat)), some (.int (i : Nat)), x9, none, none, none, none, some xe, none] H6 (entD e) := evd_v 14 rfl dxe
          cases e with
          | none => exact evb_is (evb_and (a := false) (b := true) (evb_test (evd_notN v14)) fun z => nomatch z) rfl
          | some pt =>
            obtain ⟨p, t⟩ := pt
            have ht : t < n := (R.pr i p t hi he).2.2
            have lt14 : EvD K (tOp (rIxL K) (tVar 5) (tOp (rIxT K) (tVar 14) (tC (.int 1)))) [some x, some u1, some (.int L.first), some u3, some u4, some (.ref pl), some (.int 0), some (.int (k : Nat)), some (.int (i : Nat)), x9, none, none, none, none, some xe, none] H6 (tipD (lvAt lv t)) := ix s6 rfl (evd_ixT (i := 1) v14 evd_int rfl) ht
            have tst : EvB (tAnd (tTest (tOp rNotN (tVar 14) (tC .non))) (tTest (tOp rNotN (tOp (rIxL K) (tVar 5) (tOp (rIxT K) (tVar 14) (tC (.int 1)))) (tC .non)))) [some x, some u1, some (.int L.first), some u3, some u4, some (.ref pl), some (.int 0), some (.int (k : Nat)), some (.int (i : Nat)), x9, none, none, none, none, some xe, none] H6 (!isNone (tipD (lvAt lv t))) :=
              evb_is (evb_and (a := true) (b := !isNone (tipD (lvAt lv t))) (evb_test (evd_notN v14)) fun _ => evb_test (evd_notN lt14)) (by simp)
            show match (lvAt lv ((t : Nat) : Int).toNat).map fun r => PyData.int (p + r) with
              | none => _
              | some e => _
            rw [Int.toNat_natCast]
            cases kk : lvAt lv t with
            | none => rw [kk] at tst; exact tst
            | some r =>
              rw [kk] at tst lt14
              exact ⟨tst, evd_ar (g := fun i j => i + j) (evd_ixT (i := 0) v14 evd_int rfl) lt14⟩
        refine evq_setL (K := K) comp fun p9 x9' H6 hp9 s6 e9 d9 => ?_
        have v16 := v15.trans s6
        have c2 : EvL K (tLc (iList K (tLst (tCons (tOp (rIxL K) (tVar 5) (tVar 8)) tNil))) (gName 15) (tTest (tOp rNotN (tVar 15) (tC .non))) (tVar 15) [15])
            [some x, some u1, some (.int L.first), some u3, some u4, some (.ref pl), some (.int 0), some (.int (k : Nat)), some (.int (i : Nat)), some (.ref p9), none, none, none, none, none, none] H6 ((lvAt lv i).toList.map .int) := by
          refine EvL.is (evl_lc (i := 15) (evi_list (evl_lst (eva_cons (ix s6 rfl (evd_v 8 rfl (.int (i : Nat))) hi) eva_nil) (by simp))) (by simp) someF fun d xe H7 hd s7 dxe => ?_) (some_eq _)
          simp only [List.mem_singleton] at hd
          subst hd
          have v15' : EvD K (tVar 15) [some x, some u1, some (.int L.first), some u3, some u4, some (.ref pl), some (.int 0), some (.int (k : Nat)), some (.int (i : Nat)), some (.ref p9), none, none, none, none, none, some xe] H7 (tipD (lvAt lv i)) := evd_v 15 rfl dxe
          cases kk : lvAt lv i with
          | none => rw [kk] at v15'; exact evb_is (evb_test (evd_notN v15')) rfl
          | some c => rw [kk] at v15'; exact ⟨evb_is (evb_test (evd_notN v15')) rfl, v15'⟩
        have rl1 : (rel (rowOf L i) lv).length ≤ 6 := Nat.le_trans (List.length_filterMap_le _ _) (rlen i hi)
        refine evq_setL (K := K) (EvL.is (evl_cat (evls_v e9 d9 (evr_v 9 rfl)) (EvL.ls c2) (by
          rw [List.length_map, List.length_map]
          have h2 : (lvAt lv i).toList.length ≤ 1 := by cases lvAt lv i <;> simp
          omega)) (List.map_append).symm) fun q9 y9 H7 hq9 s7 eq9 dq9 => ?_
        have ey9 := dq9.of_ints
        subst ey9
        have hrc : rel (rowOf L i) lv ++ (lvAt lv i).toList = relC (rowOf L i) lv i := rfl
        rw [hrc] at eq9 dq9
        have v17 := v16.trans s7
        have e57 := (s6.trans s7) _ _ e5
        have tn : EvB (tTest (tOp (rNeD K) (tVar 9) (tLst tNil))) [some x, some u1, some (.int L.first), some u3, some u4, some (.ref pl), some (.int 0), some (.int (k : Nat)), some (.int (i : Nat)), some (.ref q9), none, none, none, none, none, none] H7 (!decide ((relC (rowOf L i) lv i).map PyData.int = [])) := evb_test (evd_neNil (n := 0) (.inl (.inl eq9)) (DqAll.ints _) (fun d hd => by obtain ⟨k, _, rfl⟩ := List.mem_map.mp hd; exact good_int k) (by decide) (evr_v 9 rfl))
        obtain ⟨c, hput, hev⟩ : ∃ c, Put (relC (rowOf L i) lv i) c ∧ EvD K (tIf (tTest (tOp (rNeD K) (tVar 9) (tLst tNil))) (tCB (rMin K) (tCons (tVar 9) tNil)) (tC .non)) [some x, some u1, some (.int L.first), some u3, some u4, some (.ref pl), some (.int 0), some (.int (k : Nat)), some (.int (i : Nat)), some (.ref q9), none, none, none, none, none, none] H7 (tipD c) := by
          by_cases c0 : relC (rowOf L i) lv i = []
          · exact ⟨none, .inl ⟨c0, rfl⟩, evp_if (b := false) (evb_is tn (by rw [c0]; rfl)) (fun z => nomatch z) fun _ => evd_non⟩
          · obtain ⟨mn, hmn⟩ := isMin_ex _ c0
            exact ⟨some mn, .inr ⟨mn, rfl, hmn⟩, evp_if (b := true) (evb_is tn (by simp [c0])) (fun _ => evd_minLs (.inl (.inl eq9)) hmn (evr_v 9 rfl)) fun z => nomatch z⟩
        refine evs_setX (K := K) (i := i) e57 (by rw [List.length_map]; omega) rfl hev (fun H8 s8 => evd_v 8 rfl (.int (i : Nat))) fun v H8 s8 p8 => ?_
        have ev := dq_tipV p8
        subst ev
        obtain ⟨z1, z2, z3⟩ := put_step R v3 v4 hi hput
        refine ⟨_, _, lv.set i c, rfl, same_mut (v17.trans s8) hpl, by rw [upd_same, List.map_set], by rw [List.length_set, v3], z1, fun s h => z2 s (v5 s h), fun s hs hz => ?_, fun e => ?_⟩
        · by_cases cs : s < i
          · exact z2 s (v6 s cs hz)
          · have : s = i := by omega
            subst this
            obtain ⟨a, t, ea, zt⟩ := hz
            exact z3 ⟨a, t, ea, v5 t zt⟩
        · have hn1 := (noneN e).1
          have i0 : i = 0 := by omega
          subst i0
          rw [lvAt_set (by omega), if_pos rfl]
          have rc : relC (rowOf L 0) lv 0 = [] := by
            show rel (rowOf L 0) lv ++ (lvAt lv 0).toList = []
            rw [relNone e, v7 e]; rfl
          rcases hput with ⟨_, hc⟩ | ⟨mm, _, hm⟩
          · exact hc
          · rw [rc] at hm
            exact absurd hm.1 (by simp)
      · subst eσ
        rw [nats_len] at v6
        refine ⟨_, _, _, lv, rfl, v1, v2, v3, v4, fun s hs e => v5 s (t5 s hs e), fun sl => ?_, v7⟩
        exact round_more R hin (fun s hs => (sl.rest s (by rw [hN]; exact hs)).1) t5 v5 v6 (t6 sl)
    · subst eσ
      rw [nats_len] at t6
      have allZ : Slim L → ∀ s, s < n → Zr lv s := fun sl => by
        rcases t6 sl with h | h
        · have := cnt_le n lv
          omega
        · exact h
      refine evq_tupLL (K := K) (ds := nats' [0]) (es := nats' [0]) (evl_lst (eva_cons evd_int eva_nil) (by decide)) (fun _ _ => evl_lst (eva_cons evd_int eva_nil) (by decide)) fun pc xc pw xw H3 hpc hpw ncw s3 ec dc ew dw => ?_
      have fromN : ∀ (ns : List Nat) (vs : List V) (H' : Hp), DqAll K H' vs (nats' ns) → vs = vNats ns := fun ns vs H' h => by
        have : nats' ns = (ns.map fun n : Nat => (n : Int)).map PyData.int := by unfold nats'; rw [List.map_map]; rfl
        rw [this] at h
        rw [h.of_ints, vI_nats]
      have exc := fromN _ _ _ dc
      have exw := fromN _ _ _ dw
      subst exc exw
      have e3l := s3 _ _ t2
      have hpc1 : H1 pc = none := t1.free hpc
      have hpw1 : H1 pw = none := t1.free hpw
      have nlc : pl ≠ pc := fun z => by rw [← z, t2] at hpc; cases hpc
      have nlw : pl ≠ pw := fun z => by rw [← z, t2] at hpw; cases hpw
      refine ⟨fun kk σ' H' => ∃ (come wait : List Nat) (x12 : Option V), σ' = [some x, some u1, some (.int L.first), some u3, some u4, some (.ref pl), some (.int 0), x7, x8, x9, some (.ref pc), some (.ref pw), x12, none, none, none] ∧ Same H1 H' ∧ H' pl = some (.lst (lv.map tipV)) ∧ H' pc = some (.lst (vNats come)) ∧ H' pw = some (.lst (vNats wait)) ∧ come.Nodup ∧ (∀ s ∈ come, s < n) ∧ 0 ∈ come ∧ (∀ s ∈ wait, s ∈ come) ∧
        (∀ s ∈ come, s ∉ wait → ∀ p t, some (p, t) ∈ rowOf L s → t ∈ come) ∧ wait.length ≤ come.length ∧ kk = 2 * (n - come.length) + wait.length, ⟨_, [0], [0], none, rfl, t1.trans s3, e3l, ec, ew, (List.nodup_cons.mpr ⟨List.not_mem_nil, List.nodup_nil⟩), (fun s h => by have h := List.mem_singleton.mp h; omega), List.mem_singleton.mpr rfl, (fun s h => h), (fun s h1 h2 => absurd h1 h2), Nat.le_refl _, rfl⟩, ?_⟩
      rintro kk σ' H4 ⟨come, wait, x12, rfl, g1, g2, g3, g4, g5, g6, g7, g8, g9, g10, g11⟩
      have clen : come.length ≤ n := nodup_lt g5 g6
      have tw : EvB (tTest (tOp (rNeD K) (tVar 11) (tLst tNil))) [some x, some u1, some (.int L.first), some u3, some u4, some (.ref pl), some (.int 0), x7, x8, x9, some (.ref pc), some (.ref pw), x12, none, none, none] H4 (!decide (nats' wait = [])) :=
        evb_test (evd_neNil (n := 0) (.inl (.inl g4)) (vNats_dq wait) (fun d hd => by obtain ⟨k, _, rfl⟩ := List.mem_map.mp hd; exact good_int _) (by decide) (evr_v 11 rfl))
      refine tw H4 (Same.refl _) _ fun H5 s5 => ?_
      rcases List.eq_nil_or_concat wait with ew0 | ⟨wl, sN, ewc⟩
      · subst ew0
        refine iteF ?_
        have g15 := g1.trans s5
        have k4' := k4.mono g15
        have k3' := k3.mono g15
        have e5l := s5 _ _ g2
        have lv0 : (lv.map tipD)[0]? = some (tipD (lvAt lv 0)) := by
          have h0 : 0 < lv.length := by omega
          rw [List.getElem?_map]
          unfold lvAt
          rw [List.getElem?_eq_getElem h0]; rfl
        have tst : EvB (tAnd (tTest (tOp rEq (tCB (rLenS K) (tCons (tVar 3) tNil)) (tC (.int 1)))) (tAnd (tTest (tOp rIsN (tOp (rIxT K) (tVar 4) (tC (.int 0))) (tC .non))) (tTest (tOp rIsN (tOp (rIxL K) (tVar 5) (tC (.int 0))) (tC .non)))))
            [some x, some u1, some (.int L.first), some u3, some u4, some (.ref pl), some (.int 0), x7, x8, x9, some (.ref pc), some (.ref pw), x12, none, none, none] H5 (decide ((n : Int) = 1) && (isNone (tipD (tip L.ends 0)) && isNone (tipD (lvAt lv 0)))) :=
          evb_and (evb_test (evd_eqI (evd_is (evd_lenT (evd_v 3 rfl k3')) (by rw [lrows])) evd_int)) fun _ => evb_and (evb_test (evd_isN (evd_ixT (i := 0) (evd_v 4 rfl k4') evd_int (gtip 0 pos)))) fun _ => evb_test (evd_isN (evd_ixLs (i := 0) (.inl (.inl e5l)) (tips_dq lv) (evr_v 5 rfl) evd_int lv0))
        rcases il.slim with eN | sl
        · obtain ⟨n1, tn0, f0⟩ := noneN eN
          refine evq_ifn (b := true) (evb_is tst (by rw [n1, tn0, t7 eN]; rfl)) (fun _ H6 s6 => ?_) fun z => nomatch z
          have lcN : EvL K (tLc (iTup K (tOp (rIxT K) (tVar 3) (tC (.int 0)))) (gName 14) (tTest (tOp rNotN (tVar 14) (tC .non))) (tVar 14) [14]) [some x, some u1, some (.int L.first), some u3, some u4, some (.ref pl), some (.int 0), x7, x8, x9, some (.ref pc), some (.ref pw), x12, none, none, none] H6 (((rowOf L 0).map entD).filterMap fun _ => none) := by
            refine evl_lc (i := 14) (evi_tup (evd_ixT (i := 0) (evd_v 3 rfl (k3'.mono s6)) evd_int (grow 0 pos))).same (by rw [List.length_map]; have := rlen 0 pos; omega) (fun _ => none) fun d xe H7 hd s7 dxe => ?_
            obtain ⟨e, he, rfl⟩ := List.mem_map.mp hd
            have en : e = none := by
              have hr0 : rowOf L 0 = List.replicate lt.length none := by rw [eN]; rfl
              rw [hr0] at he
              exact List.eq_of_mem_replicate he
            subst en
            exact evb_is (evb_test (evd_notN (evd_v (K := K) 14 rfl dxe))) rfl
          have nil : ((rowOf L 0).map entD).filterMap (fun _ => (none : Option PyData)) = [] := by
            rw [List.filterMap_eq_nil_iff]
            intro _ _; rfl
          refine evs_retD (K := K) (d := .bool true) (evd_is (evd_and (evd_eqI (evd_v 2 rfl (.int _)) evd_int) fun _ => EvL.ref_eqNil (n := 0) lcN (fun d hd => by rw [nil] at hd; simp at hd) (by decide)) (by rw [nil, f0]; rfl)) fun v H7 s7 p7 => ?_
          cases p7
          exact q H7 (s1.trans (g15.trans (s6.trans s7)))
        · have z0 := allZ sl
          have lz : lvAt lv 0 = some 0 := z0 0 pos
          refine evq_ifn (b := false) (evb_is tst (by rw [lz]; simp [tipD, isNone])) (fun z => nomatch z) fun _ H6 s6 => ?_
          have e6l := s6 _ _ e5l
          have e6c := s6 _ _ (s5 _ _ g3)
          have allC : ∀ j, j < n → j ∈ come := by
            have one : ∀ j, j < 1 → j ∈ come := fun j hj => by
              have e : j = 0 := by omega
              rw [e]; exact g7
            have := scanRows_all (S := fun s => s ∈ come) L.rows 0 1 L.rows.length sl.scan one (fun j r e sj p t hm => ?_)
            · intro j hj
              exact this j (by rw [hN]; exact hj)
            · rw [Nat.zero_add] at sj
              have hr : r = rowOf L j := by
                have hj := (List.getElem?_eq_some_iff.mp e).1
                exact Option.some.inj (e.symm.trans (rowOf_get hj))
              exact g9 j sj (by simp) p t (hr ▸ hm)
          have srt : EvL K (tCB (rSortedI K) (tCons (tVar 10) tNil)) [some x, some u1, some (.int L.first), some u3, some u4, some (.ref pl), some (.int 0), x7, x8, x9, some (.ref pc), some (.ref pw), x12, none, none, none] H6 (nats' (List.range n)) := fun H7 s7 Q2 q2 => by
            refine ⟨.ref pc, rfl, pc, come.map fun n : Nat => (n : Int), rfl, .inl (.inl (by rw [← vI_nats]; exact s7 _ _ e6c)), fun ys p perm srt hp => ?_⟩
            have ey : ys = (List.range n).map fun x : Nat => (x : Int) := by
              have ndI : (come.map fun n : Nat => (n : Int)).Nodup := List.Pairwise.map _ (fun a b h e => h (by omega)) g5
              have ndY : ys.Nodup := perm.nodup_iff.mpr ndI
              have slt : ys.Pairwise (· < ·) := L2.lt_of_le_nodup ys srt ndY
              refine sorted_uniq slt (List.Pairwise.map _ (fun a b h => by omega) List.pairwise_lt_range) fun k => ?_
              rw [perm.mem_iff]
              constructor
              · intro hk
                obtain ⟨y, hy, rfl⟩ := List.mem_map.mp hk
                exact List.mem_map.mpr ⟨y, List.mem_range.mpr (g6 y hy), rfl⟩
              · intro hk
                obtain ⟨y, hy, rfl⟩ := List.mem_map.mp hk
                exact List.mem_map.mpr ⟨y, allC y (List.mem_range.mp hy), rfl⟩
            subst ey
            refine q2 p _ _ hp (same_new hp) upd_same ?_
            rw [← vI_nats]
            exact vNats_dq _
          have rng : EvL K (tLstRg (tRg1 (tCB (rLenS K) (tCons (tVar 3) tNil)))) [some x, some u1, some (.int L.first), some u3, some u4, some (.ref pl), some (.int 0), x7, x8, x9, some (.ref pc), some (.ref pw), x12, none, none, none] H6 (nats' (List.range n)) := fun H7 s7 Q2 q2 => by
            refine (evd_lenT (K := K) (evd_v 3 rfl ((k3'.mono s6).mono s7))).run (Same.refl _) fun v H8 s8 p8 => ?_
            cases p8
            refine ⟨_, rfl, .of_le (by omega) (by rw [lrows]; omega) (by omega) (by omega), fun p hp => ?_⟩
            have er : rgV 0 (((L.rows.map rowD).length : Nat) : Int) = vNats (List.range n) := by
              unfold rgV vNats
              rw [lrows]
              have : ((n : Int) - 0).toNat = n := by omega
              rw [this]
              exact List.map_congr_left fun i _ => by rw [Int.zero_add]
            refine q2 p _ _ (s8.free hp) (s8.trans (same_new hp)) upd_same ?_
            rw [er]
            exact vNats_dq _
          have gn : ∀ d ∈ nats' (List.range n), Good 0 d := fun d hd => by obtain ⟨k, _, rfl⟩ := List.mem_map.mp hd; exact good_int _
          have lcZ : EvL K (tLc (iList K (tVar 5)) (gName 15) (tTest (tOp rNe (tVar 15) (tC (.int 0)))) (tVar 15) [15]) [some x, some u1, some (.int L.first), some u3, some u4, some (.ref pl), some (.int 0), x7, x8, x9, some (.ref pc), some (.ref pw), x12, none, none, none] H6 ((lv.map tipD).filterMap fun _ => none) := by
            refine evl_lc (i := 15) (evi_listS (.inl (.inl e6l)) (tips_dq lv) (evr_v 5 rfl)) (by rw [List.length_map]; omega) (fun _ => none) fun d xe H7 hd s7 dxe => ?_
            obtain ⟨c, hc, rfl⟩ := List.mem_map.mp hd
            obtain ⟨j, hj⟩ := List.mem_iff_getElem?.mp hc
            have hjn := (List.getElem?_eq_some_iff.mp hj).1
            have := z0 j (by omega)
            have ec0 : c = some 0 := by
              have h : lvAt lv j = some 0 := this
              unfold lvAt at h
              rw [hj] at h
              exact h
            subst ec0
            exact evb_is (evb_test (evd_neI (evd_v (K := K) 15 rfl dxe) evd_int)) rfl
          have nil : (lv.map tipD).filterMap (fun _ => (none : Option PyData)) = [] := by
            rw [List.filterMap_eq_nil_iff]
            intro _ _; rfl
          have same : PyData.eqvAll (nats' (List.range n)) (nats' (List.range n)) = true := (eqvAll_iff _ _ (noB_all gn) (noB_all gn)).mpr rfl
          refine evs_retD (K := K) (d := .bool true) (evd_is (evd_and (evd_eqLL (n := 0) (EvL.ls srt) (EvL.ls rng) gn gn (by decide)) fun _ => EvL.ref_eqNil (n := 0) lcZ (fun d hd => by rw [nil] at hd; simp at hd) (by decide)) (by rw [nil, same]; rfl)) fun v H7 s7 p7 => ?_
          cases p7
          exact q H7 (s1.trans (g15.trans (s6.trans s7)))
      · rw [List.concat_eq_append] at ewc
        subst ewc
        have hne : (!decide (nats' (wl ++ [sN]) = [])) = true := by simp [nats']
        rw [hne]
        refine iteT ⟨_, fun σ'' H'' hNx => hNx, ?_⟩
        have hsC := g8 sN (by simp)
        have hsn := g6 sN hsC
        have g15 := g1.trans s5
        have e5w : H5 pw = some (.lst (vNats wl ++ [.int (sN : Nat)])) := by rw [vNats_snoc]; exact s5 _ _ g4
        have s6 : Same H1 (upd H5 pw (.lst (vNats wl))) := same_mut g15 hpw1
        have e6w : (upd H5 pw (.lst (vNats wl))) pw = some (.lst (vNats wl)) := upd_same
        have e6c : (upd H5 pw (.lst (vNats wl))) pc = some (.lst (vNats come)) := by rw [upd_ne ncw]; exact s5 _ _ g3
        have e6l : (upd H5 pw (.lst (vNats wl))) pl = some (.lst (lv.map tipV)) := by rw [upd_ne nlw]; exact s5 _ _ g2
        obtain ⟨a3, z3, rfl, sq3, dz3⟩ := k3.tupE
        obtain ⟨vr, hvr, dvr⟩ := dz3.get (grow sN hsn)
        refine evq_asg (lc_pop (K := K) (a := a3) (pw := pw) (s := sN) (xs := vNats wl) (zs := z3) (v := vr) rfl rfl e5w (sqT_kp (.of s6) sq3) hvr ?_)
        generalize upd H5 pw (.lst (vNats wl)) = H6 at s6 e6w e6c e6l ⊢
        have comp : EvL K (tLc (iTup K (tC vr)) (gName 14) (tAnd (tTest (tOp rNotN (tVar 14) (tC .non))) (tTest (tOp (rIn K true) (tOp (rIxT K) (tVar 14) (tC (.int 1))) (tVar 10)))) (tOp (rIxT K) (tVar 14) (tC (.int 1))) [14])
            [some x, some u1, some (.int L.first), some (.ref a3), some u4, some (.ref pl), some (.int 0), x7, x8, x9, some (.ref pc), some (.ref pw), x12, none, none, none] H6 (nats' (newN come (rowOf L sN))) := by
          refine EvL.is (evl_lc (i := 14) (evi_tup (te := tC vr) (ds := (rowOf L sN).map entD) (fun H7 s7 Q2 q2 => q2 vr H7 _ (Same.refl _) ((dvr.mono s6).mono s7) rfl)).same (by rw [List.length_map]; have := rlen sN hsn; omega) (newF come) fun d xe H7 hd s7 dxe => ?_) (new_eq come _)
          obtain ⟨e, he, rfl⟩ := List.mem_map.mp hd
          have v14 : EvD K (tVar 14) [some x, some u1, some (.int L.first), some (.ref a3), some u4, some (.ref pl), some (.int 0), x7, x8, x9, some (.ref pc), some (.ref pw), x12, none, some xe, none] H7 (entD e) := evd_v 14 rfl dxe
          cases e with
          | none => exact evb_is (evb_and (a := false) (b := true) (evb_test (evd_notN v14)) fun z => nomatch z) rfl
          | some pt =>
            obtain ⟨p, t⟩ := pt
            have e1 : EvD K (tOp (rIxT K) (tVar 14) (tC (.int 1))) [some x, some u1, some (.int L.first), some (.ref a3), some u4, some (.ref pl), some (.int 0), x7, x8, x9, some (.ref pc), some (.ref pw), x12, none, some xe, none] H7 (.int (t : Nat)) := evd_ixT (i := 1) v14 evd_int rfl
            have tst : EvB (tAnd (tTest (tOp rNotN (tVar 14) (tC .non))) (tTest (tOp (rIn K true) (tOp (rIxT K) (tVar 14) (tC (.int 1))) (tVar 10)))) [some x, some u1, some (.int L.first), some (.ref a3), some u4, some (.ref pl), some (.int 0), x7, x8, x9, some (.ref pc), some (.ref pw), x12, none, some xe, none] H7 (!decide (t ∈ come)) :=
              evb_is (evb_and (a := true) (b := !decide (t ∈ come)) (evb_test (evd_notN v14)) fun _ => evb_test (evd_notInN (s7 _ _ e6c) e1 (evr_v 10 rfl))) (by simp)
            show match (if ((t : Nat) : Int).toNat ∈ come then none else some (PyData.int ((t : Nat) : Int))) with
              | none => _
              | some e => _
            rw [Int.toNat_natCast]
            by_cases c : t ∈ come
            · rw [if_pos c]
              rw [decide_eq_true c] at tst
              exact tst
            · rw [if_neg c]
              rw [decide_eq_false c] at tst
              exact ⟨tst, e1⟩
        refine comp.use _ fun p12 y12 H7 hp12 s7 e12 d12 => ?_
        have ey12 := fromN _ _ _ d12
        subst ey12
        have newlt : ∀ t ∈ newN come (rowOf L sN), t < n := fun t ht => by
          obtain ⟨⟨p, hp⟩, _⟩ := mem_new.mp ht
          exact (R.pr sN p t hsn hp).2.2
        have newlen : (newN come (rowOf L sN)).length < 64 := by
          have := List.length_filterMap_le (fun e : Ent => e.bind fun x => if x.2 ∈ come then none else some x.2) (rowOf L sN)
          have := rlen sN hsn
          unfold newN
          omega
        generalize hnew : newN come (rowOf L sN) = new at *
        generalize hadd : (List.range n).filter (fun x => decide (x ∈ new)) = add at *
        have memAdd : ∀ t, t ∈ add ↔ t ∈ new := fun t => by
          rw [← hadd, List.mem_filter, List.mem_range, decide_eq_true_eq]
          exact ⟨fun h => h.2, fun h => ⟨newlt t h, h⟩⟩
        have ndAdd : add.Nodup := by rw [← hadd]; exact List.nodup_range.filter _
        have srt : ∀ {σ0 : L2.St} {H8 : Hp}, σ0[12]? = some (some (.ref p12)) → H8 p12 = some (.lst (vNats new)) → EvL K (tCB (rSortedSet w) (tCons (tCB (rSetI K w) (tCons (tVar 12) tNil)) tNil)) σ0 H8 (nats' add) := fun {σ0 H8} h12 e8 => by
          rw [← hadd]
          exact evl_sortedSet (n := n) (evls_v e8 (vNats_dq new) (evr_v 12 h12)) newlt newlen
        have addL : add.length ≤ n := nodup_lt ndAdd fun t ht => newlt t ((memAdd t).mp ht)
        have wlen : wl.length ≤ 60 := by have := g10; rw [List.length_append] at this; simp at this; omega
        have lnC : (vNats come).length = come.length := by unfold vNats; rw [List.length_map]
        have lnW : (vNats wl).length = wl.length := by unfold vNats; rw [List.length_map]
        have lnA : (nats' add).length = add.length := by unfold nats'; rw [List.length_map]
        have hp12c : pc ≠ p12 := fun z => by rw [← z, e6c] at hp12; cases hp12
        have hp12w : pw ≠ p12 := fun z => by rw [← z, e6w] at hp12; cases hp12
        refine evq_extend (K := K) (s7 _ _ e6c) (by rw [lnC, lnA]; omega) (evr_v 10 rfl) (srt rfl e12) fun zs H8 s8 d8 => ?_
        have ezs := fromN _ _ _ d8
        subst ezs
        have s18 := s6.trans (s7.trans s8)
        have cat : ∀ a b : List Nat, vNats a ++ vNats b = vNats (a ++ b) := fun a b => by unfold vNats; rw [List.map_append]
        rw [cat]
        have w8 : (upd H8 pc (.lst (vNats (come ++ add)))) pw = some (.lst (vNats wl)) := by rw [upd_ne (Ne.symm ncw)]; exact (s7.trans s8) _ _ e6w
        have n8 : (upd H8 pc (.lst (vNats (come ++ add)))) p12 = some (.lst (vNats new)) := by rw [upd_ne (Ne.symm hp12c)]; exact s8 _ _ e12
        refine evs_extend (K := K) w8 (by rw [lnW, lnA]; omega) (evr_v 11 rfl) (srt rfl n8) fun zs H9 s9 d9 => ?_
        have ezs := fromN _ _ _ d9
        subst ezs
        rw [cat]
        have newnot : ∀ t ∈ add, t ∉ come := fun t ht => by
          have := (memAdd t).mp ht
          rw [← hnew] at this
          exact (mem_new.mp this).2
        have nd2 : (come ++ add).Nodup := List.nodup_append.mpr ⟨g5, ndAdd, fun a ha b hb e => newnot b hb (e ▸ ha)⟩
        have lt2 : ∀ s ∈ come ++ add, s < n := fun s hs => by
          rcases List.mem_append.mp hs with h | h
          · exact g6 s h
          · exact newlt s ((memAdd s).mp h)
        have len2 := nodup_lt nd2 lt2
        rw [List.length_append] at len2
        refine ⟨2 * (n - (come ++ add).length) + (wl ++ add).length, ?_, come ++ add, wl ++ add, _, rfl, same_mut ((same_mut s18 hpc1).trans s9) hpw1, ?_, ?_, upd_same, nd2, lt2, List.mem_append_left _ g7, fun s hs => ?_, fun s hs hnw p t hm => ?_, ?_, rfl⟩
        · rw [g11, List.length_append, List.length_append, List.length_append]
          simp
          omega
        · rw [upd_ne nlw]; exact s9 _ _ (by rw [upd_ne nlc]; exact (s7.trans s8) _ _ e6l)
        · rw [upd_ne ncw]; exact s9 _ _ upd_same
        · rcases List.mem_append.mp hs with h | h
          · exact List.mem_append_left _ (g8 s (List.mem_append_left _ h))
          · exact List.mem_append_right _ h
        · rcases List.mem_append.mp hs with h | h
          · by_cases ce : s = sN
            · subst ce
              by_cases ct : t ∈ come
              · exact List.mem_append_left _ ct
              · refine List.mem_append_right _ ((memAdd t).mpr ?_)
                rw [← hnew]
                exact mem_new.mpr ⟨⟨p, hm⟩, ct⟩
            · refine List.mem_append_left _ (g9 s h (fun hw => ?_) p t hm)
              rcases List.mem_append.mp hw with h' | h'
              · exact hnw (List.mem_append_left _ h')
              · simp at h'
                exact ce h'
          · exact absurd (List.mem_append_right _ h) hnw
        · rw [List.length_append] at g10 ⊢
          rw [List.length_append]
          simp at g10
          omega
end
end K96

set_option maxRecDepth 100000
set_option maxHeartbeats 2000000
/-! _law_told -/
namespace K96
open PySem PySem.Spec PyProof.Rows L2 KD Ladm
theorem exm_of {K : PySem.W.Frag} {mg : Str → Option Value} {x : Str} (X : ExAt K mg x) {cls : Value} {b : Bool} (h : PySem.W.subIn K cls (.ref X.C) = some b) : PySem.W.exmOne K cls (.ref X.C) = some b := by
  have e1 : (PySem.W.subIn K (.ref X.C) (.type "BaseException") == some true) = true := by rw [X.sB] <;> rfl
  have e2 : ((PySem.W.clsIn K X.C).isSome && PySem.W.typeIn K (.ref X.C) == some (.type "type")) = true := by
    have := X.cl
    unfold PySem.W.isClsIn at this
    rw [this, X.ty] <;> rfl
  show (if (PySem.W.subIn K (.ref X.C) (.type "BaseException") == some true) = true then (if ((PySem.W.clsIn K X.C).isSome && PySem.W.typeIn K (.ref X.C) == some (.type "type")) = true then PySem.W.subIn K cls (.ref X.C) else none) else none) = some b
  rw [if_pos e1, if_pos e2]
  exact h
theorem evs_dropS {K : PySem.W.Frag} {H : Hp} {σ : L2.St} {D : Ends} {sp : Sp} {E : L2.St → XK} {ta : TA} {ds : List PyData} (h : EvA K ta σ H ds) (q : ∀ vs H1, Same H H1 → DqAll K H1 vs ds → sp vs H1 (fun _ H2 => D.nx σ H2) (E σ)) : tDrop (tCallS sp E ta) D σ H := h H (Same.refl _) _ q
section
variable {P : Program} {w : World} {K : PySem.W.Frag} {mg : Str → Option Value} {base : Heap}
/-- which, ladder, other, what is told -/
inductive Told1 : Nat → PyData → PyData → Str → Prop
  | ladder {i : Nat} {d e : PyData} (h : i < 4) (a : LadArg d) (n : isLadD d = false) : Told1 i d e "ladder"
  | word {lt : List Str} {L : Lad} {e : PyData} (v : Valid lt L) (n : wordD lt.length e = false) : Told1 0 (ladD lt L) e "word"
  | other {lt : List Str} {L : Lad} {e : PyData} (v : Valid lt L) (a : LadArg e) (n : isLadD e = false) : Told1 3 (ladD lt L) e "other"
  | unlike {lt lu : List Str} {L M : Lad} (v : Valid lt L) (v' : Valid lu M) (n : lt ≠ lu) : Told1 3 (ladD lt L) (ladD lu M) "unlike"
def spTold (K : PySem.W.Frag) : Sp := fun vs H Q _ => ∃ (x y : V) (i : Nat) (d e : PyData) (z : Str), vs = [.int (i : Nat), x, y] ∧ Dq K H x d ∧ Dq K H y e ∧ Told1 i d e z ∧ ∀ H', Same H H' → Q (.str z) H'
theorem ok_l_told (T : Txt K mg) : FnOk P w K mg base CX0 7 T.A_l_told.f T.A_l_told.d ["which", "ladder", "other"] (spTold K) := by
  refine T.A_l_told.F.ok sc_l_told (fun vs H Q E h => ?_) (fun cdv A outer s H vs Q E hr h => ?_)
  · obtain ⟨_, _, _, _, _, _, rfl, _⟩ := h; rfl
  · obtain ⟨x, y, i, d, e, z, rfl, hx, hy, tc, q⟩ := h
    refine ⟨_, (pss_cons (ps_set (i := 3) sc_l_told.nd rfl (.inl rfl) pe_str)
      (pss_cons (ps_try_many rfl rfl takes_none5 (fun W pn xe tk hp => (pss_one (ps_if (pt_cmpR op_eq (pv 0) pe_int (nomark _))
        (pss_one (ps_expr (pe_callS (E := WE W) (ok_ladder_cost T) (hr.mono (by decide)) (by rfl) T.A_ladder_cost.g T.A_ladder_cost.F.kp T.A_ladder_cost.b (fun σ => passAt tk σ) (pa_cons (pv 1) (pa_cons (pv 2) pa_nil)))))
        (pss_one (ps_if (pt_cmpR op_eq (pv 0) pe_int (nomark _))
        (pss_one (ps_expr (pe_callS (E := WE W) (ok_least_ladder T) (hr.mono (by decide)) (by rfl) T.A_least_ladder.g T.A_least_ladder.F.kp T.A_least_ladder.b (fun σ => passAt tk σ) (pa_cons (pv 1) pa_nil))))
        (pss_one (ps_if (pt_cmpR op_eq (pv 0) pe_int (nomark _))
        (pss_one (ps_expr (pe_callS (E := WE W) (ok_is_least_ladder T) (hr.mono (by decide)) (by rfl) T.A_is_least_ladder.g T.A_is_least_ladder.F.kp T.A_is_least_ladder.b (fun σ => passAt tk σ) (pa_cons (pv 1) pa_nil))))
        (pss_one (ps_expr (pe_callS (E := WE W) (ok_same_ladders T) (hr.mono (by decide)) (by rfl) T.A_same_ladders.g T.A_same_ladders.F.kp T.A_same_ladders.b (fun σ => passAt tk σ) (pa_cons (pv 1) (pa_cons (pv 2) pa_nil))))))))))))
        (.cons (x := "BadLadder") ⟨by rfl, by decide, .inl T.X_BadLadder.g⟩ (fun a oe cls d pn hz hv => pss_one (ps_set (i := 3) sc_l_told.nd rfl (.inl rfl) pe_str))
        (.cons (x := "BadOther") ⟨by rfl, by decide, .inl T.X_BadOther.g⟩ (fun a oe cls d pn hz hv => pss_one (ps_set (i := 3) sc_l_told.nd rfl (.inl rfl) pe_str))
        (.cons (x := "BadWord") ⟨by rfl, by decide, .inl T.X_BadWord.g⟩ (fun a oe cls d pn hz hv => pss_one (ps_set (i := 3) sc_l_told.nd rfl (.inl rfl) pe_str))
        (.cons (x := "Unlike") ⟨by rfl, by decide, .inl T.X_Unlike.g⟩ (fun a oe cls d pn hz hv => pss_one (ps_set (i := 3) sc_l_told.nd rfl (.inl rfl) pe_str))
        .nil)))))
      (pss_one (ps_ret (pv 3))))), ?_⟩
    refine evq_setD (K := K) evd_str fun v H1 s1 p1 => ?_
    cases p1
    have hx1 := hx.mono s1
    have hy1 := hy.mono s1
    have t : ∀ (j : Nat) (H2 : Hp), EvB (tTest (tOp rEq (tVar 0) (tC (.int (j : Nat))))) [some (.int (i : Nat)), some x, some y, some (.str "told")] H2 (decide ((i : Int) = (j : Int))) := fun j H2 => evb_test (K := K) (evd_eqI (evd_v 0 rfl (.int (i : Nat))) evd_int)
    have ex1 : ∀ {H2 : Hp}, Same H1 H2 → EvA K (tCons (tVar 1) tNil) [some (.int (i : Nat)), some x, some y, some (.str "told")] H2 [d] := fun s => eva_cons (evd_v 1 rfl (hx1.mono s)) eva_nil
    have ex2 : ∀ {H2 : Hp}, Same H1 H2 → EvA K (tCons (tVar 1) (tCons (tVar 2) tNil)) [some (.int (i : Nat)), some x, some y, some (.str "told")] H2 [d, e] := fun s => eva_cons (evd_v 1 rfl (hx1.mono s)) (eva_cons (evd_v 2 rfl (hy1.mono s)) eva_nil)
    have gl : ∀ {n : Nat}, decide ((i : Int) = (n : Int)) = true → i = n := fun h => by have := of_decide_eq_true h; omega
    have gn : ∀ {n : Nat}, decide ((i : Int) = (n : Int)) = false → i ≠ n := fun h => by have := of_decide_eq_false h; omega
    have ladT : ∀ {d : PyData} {lt : List Str} {L : Lad}, d = ladD lt L → isLadD (ladD lt L) = true → isLadD d = false → False := fun e1 y n => by rw [e1, y] at n; cases n
    refine evs_if (t 0 H1) (fun hb H2 s2 => ?_) fun hb H2 s2 => ?_
    · have hi := gl hb
      subst hi
      refine evs_dropS (ex2 s2) fun vs H3 s3 p3 => ?_
      have s13 := s1.trans (s2.trans s3)
      cases tc with
      | ladder h a n =>
        refine ⟨_, p3, ⟨_, _, rfl, .badL a n⟩, fun r v H4 s4 p4 po => ?_, fun C H4 s4 er => ?_⟩
        · obtain ⟨lt, L, wd, e1, _, y, _⟩ := po
          exact (ladT (List.cons.inj e1).1 y n).elim
        · rcases er with ⟨rfl, _⟩ | ⟨rfl, lt, L, x', e1, v, _⟩
          · exact ⟨true, exm_of T.X_BadLadder T.e_BadLadder_BadLadder, fun _ a ha => ⟨_, rfl, q H4 (s13.trans s4)⟩, fun z => nomatch z⟩
          · exact (ladT (List.cons.inj e1).1 (isLad_of v) n).elim
      | word v n =>
        refine ⟨_, p3, ⟨_, _, rfl, .badW v n⟩, fun r v4 H4 s4 p4 po => ?_, fun C H4 s4 er => ?_⟩
        · obtain ⟨lt', L', wd, e1, _, _, y⟩ := po
          have h1 := (ladD_inj (List.cons.inj e1).1).1
          have h2 : e = wordE wd := (List.cons.inj (List.cons.inj e1).2).1
          rw [← h1, ← h2, n] at y
          cases y
        · rcases er with ⟨rfl, d', x', e1, no⟩ | ⟨rfl, _⟩
          · have h1 := (List.cons.inj e1).1
            rw [← h1, isLad_of v] at no
            cases no
          · exact ⟨false, exm_of T.X_BadLadder T.e_BadWord_BadLadder, (fun z => nomatch z), fun _ => ⟨false, exm_of T.X_BadOther T.e_BadWord_BadOther, (fun z => nomatch z), fun _ => ⟨true, exm_of T.X_BadWord T.e_BadWord_BadWord, fun _ a ha => ⟨_, rfl, q H4 (s13.trans s4)⟩, fun z => nomatch z⟩⟩⟩
    · have n0 := gn hb
      have s12 := s2
      refine evs_if (t 1 H2) (fun hb H3 s3 => ?_) fun hb H3 s3 => ?_
      · have hi := gl hb
        subst hi
        refine evs_dropS (ex1 (s12.trans s3)) fun vs H4 s4 p4 => ?_
        obtain ⟨y0, rfl, d0⟩ := p4.single
        cases tc with
        | ladder h a n => exact ⟨y0, d, rfl, d0, .inr ⟨a, n, fun H5 s5 => ⟨true, exm_of T.X_BadLadder T.e_BadLadder_BadLadder, fun _ a ha => ⟨_, rfl, q H5 (s1.trans (s12.trans (s3.trans (s4.trans s5))))⟩, fun z => nomatch z⟩⟩⟩
      · have n1 := gn hb
        refine evs_if (t 2 H3) (fun hb H4 s4 => ?_) fun hb H4 s4 => ?_
        · have hi := gl hb
          subst hi
          refine evs_dropS (ex1 (s12.trans (s3.trans s4))) fun vs H5 s5 p5 => ?_
          obtain ⟨y0, rfl, d0⟩ := p5.single
          cases tc with
          | ladder h a n => exact ⟨y0, d, rfl, d0, .inr ⟨a, n, fun H6 s6 => ⟨true, exm_of T.X_BadLadder T.e_BadLadder_BadLadder, fun _ a ha => ⟨_, rfl, q H6 (s1.trans (s12.trans (s3.trans (s4.trans (s5.trans s6)))))⟩, fun z => nomatch z⟩⟩⟩
        · have n2 := gn hb
          refine evs_dropS (ex2 (s12.trans (s3.trans s4))) fun vs H5 s5 p5 => ?_
          obtain ⟨y0, y1, rfl, d0, d1⟩ := p5.two
          have s15 := s1.trans (s12.trans (s3.trans (s4.trans s5)))
          cases tc with
          | ladder h a n => exact ⟨y0, y1, d, e, rfl, d0, d1, .inr (.inr (.inr ⟨a, n, fun H6 s6 => ⟨true, exm_of T.X_BadLadder T.e_BadLadder_BadLadder, fun _ a ha => ⟨_, rfl, q H6 (s15.trans s6)⟩, fun z => nomatch z⟩⟩))⟩
          | word v n => exact absurd rfl n0
          | other v a n => exact ⟨y0, y1, _, e, rfl, d0, d1, .inr (.inr (.inl ⟨_, _, rfl, v, a, n, fun H6 s6 => ⟨false, exm_of T.X_BadLadder T.e_BadOther_BadLadder, (fun z => nomatch z), fun _ => ⟨true, exm_of T.X_BadOther T.e_BadOther_BadOther, fun _ a ha => ⟨_, rfl, q H6 (s15.trans s6)⟩, fun z => nomatch z⟩⟩⟩))⟩
          | unlike v v' n => exact ⟨y0, y1, _, _, rfl, d0, d1, .inr (.inl ⟨_, _, _, _, rfl, rfl, v, v', n, fun H6 s6 => ⟨false, exm_of T.X_BadLadder T.e_Unlike_BadLadder, (fun z => nomatch z), fun _ => ⟨false, exm_of T.X_BadOther T.e_Unlike_BadOther, (fun z => nomatch z), fun _ => ⟨false, exm_of T.X_BadWord T.e_Unlike_BadWord, (fun z => nomatch z), fun _ => ⟨true, exm_of T.X_Unlike T.e_Unlike_Unlike, fun _ a ha => ⟨_, rfl, q H6 (s15.trans s6)⟩, fun z => nomatch z⟩⟩⟩⟩⟩)⟩
end
end K96

set_option maxRecDepth 100000
set_option maxHeartbeats 2000000
/-! twelve things that are no ladder; a slice, list() as data; a call of _law_told -/
namespace K96
open PySem PySem.Spec PyProof.Rows L2 KD Ladm
def oddA (lt : List Str) (L : Lad) : List PyData := [.none, .tuple [], .tuple [letD lt, .int L.first, rowsD L.rows], .list [],
  .tuple [letD lt, .int (-1), rowsD L.rows, tipsD L.ends], .tuple [letD lt, .bool true, rowsD L.rows, tipsD L.ends],
  .tuple [letD lt, .int 0, rowsD L.rows, .tuple (L.ends.map tipD ++ [.int 0])], .tuple [letD lt, .int 0, .tuple [], .tuple []]]
def oddRow (lt : List Str) (a b : Int) (k : Nat) : PyData := .tuple [letD lt, .int 0, .tuple [.tuple (List.replicate k (.tuple [.int a, .int b]))], .tuple [.int 0]]
def oddB (lt : List Str) : List PyData := [oddRow lt 0 99 lt.length, oddRow lt (-1) 0 lt.length, oddRow lt 0 0 (lt.length + 1)]
def oddC (lt : List Str) (L : Lad) : PyData := .tuple [letD lt, .int 1000001, rowsD L.rows, tipsD L.ends]
theorem oddRow_bad {lt : List Str} {a b : Int} {k : Nat} (ok : LetOk lt) (h : rungD lt.length 1 (.tuple (List.replicate k (.tuple [.int a, .int b]))) = false) : LadArg (oddRow lt a b k) ∧ isLadD (oddRow lt a b k) = false := by
  refine ⟨.inl ⟨lt, _, _, _, rfl, ok⟩, ?_⟩
  simp only [isLadD, oddRow, letD, List.all_cons, List.length_map, List.length_cons, List.length_nil]
  have : rungD lt.length ((0 + 1 : Nat) : Int) (.tuple (List.replicate k (.tuple [.int a, .int b]))) = false := h
  rw [this]
  simp
theorem odd_bad {lt : List Str} {L : Lad} (v : Valid lt L) {d : PyData} (hd : d ∈ oddA lt L ++ oddB lt ++ [oddC lt L]) : LadArg d ∧ isLadD d = false := by
  have ok := v.ok
  have pos := ok.pos
  have all0 : ∀ (a b : Int), entOkD 1 (.tuple [.int a, .int b]) = false → rungD lt.length 1 (.tuple (List.replicate lt.length (.tuple [.int a, .int b]))) = false := fun a b h => by
    simp only [rungD, List.length_replicate, decide_true, Bool.true_and, List.all_replicate, h]
    rw [if_neg (by omega)]
  rw [List.mem_append, List.mem_append] at hd
  rcases hd with (hd | hd) | hd
  · simp only [oddA, List.mem_cons, List.not_mem_nil, or_false] at hd
    rcases hd with rfl | rfl | rfl | rfl | rfl | rfl | rfl | rfl
    · exact ⟨.inr rfl, rfl⟩
    · exact ⟨.inr rfl, rfl⟩
    · exact ⟨.inr rfl, rfl⟩
    · exact ⟨.inr rfl, rfl⟩
    · exact ⟨.inl ⟨lt, _, _, _, rfl, ok⟩, by simp [isLadD, letD, withinD]⟩
    · exact ⟨.inl ⟨lt, _, _, _, rfl, ok⟩, by simp [isLadD, letD, withinD]⟩
    · refine ⟨.inl ⟨lt, _, _, _, rfl, ok⟩, ?_⟩
      have := v.wf.len
      simp only [isLadD, letD, rowsD, List.length_append, List.length_map, List.length_cons, List.length_nil]
      have ne : ¬ L.ends.length + (0 + 1) = L.rows.length := by omega
      simp [ne]
    · exact ⟨.inl ⟨lt, _, _, _, rfl, ok⟩, by simp [isLadD, letD]⟩
  · simp only [oddB, List.mem_cons, List.not_mem_nil, or_false] at hd
    rcases hd with rfl | rfl | rfl
    · exact oddRow_bad ok (all0 0 99 (by decide))
    · exact oddRow_bad ok (all0 (-1) 0 (by decide))
    · refine oddRow_bad ok ?_
      have ne : ¬ lt.length + 1 = lt.length := by omega
      simp [rungD, ne]
  · simp only [List.mem_cons, List.not_mem_nil, or_false] at hd
    subst hd
    exact ⟨.inl ⟨lt, _, _, _, rfl, ok⟩, by simp [isLadD, oddC, letD, withinD]⟩
def strL : Lad := ⟨0, [[none]], [some 0]⟩
theorem str_valid : Valid (["q"] : List Str) strL :=
  ⟨⟨by decide, by decide, by decide +kernel, by decide, by decide +kernel⟩,
   ⟨by decide, by decide, fun r hr => by simp [strL] at hr; subst hr; rfl, fun s a p t e => by
      match s, a, e with
      | 0, 0, e => cases e
      | 0, a + 1, e => cases e
      | s + 1, a, e => cases e⟩,
   by decide,
   ⟨by decide, by decide, fun r hr p t hm => by simp [strL] at hr; subst hr; simp at hm, fun c hc => by simp [strL] at hc; subst hc; decide⟩⟩
theorem Lets.odd {lt : List Str} (h : Lets lt) : lt ≠ (["q"] : List Str) := by
  rcases h with rfl | rfl | rfl <;> decide
section
variable {K : PySem.W.Frag} {H : Hp} {σ : L2.St} {te : TE}
theorem evd_sl3 {a b c d : PyData} (h : EvD K te σ H (.tuple [a, b, c, d])) : EvD K (tSl (rSlT K) te tNoPart (tPart (tC (.int 3)))) σ H (.tuple [a, b, c]) := fun H1 s Q q => h.run s fun v H2 s2 p2 => by
  obtain ⟨p, xs, rfl, hT, hA⟩ := p2.tupE
  obtain ⟨x, y, z, u, rfl, a1, a2, a3, a4⟩ := hA.four
  refine ⟨3, rfl, p, [x, y, z, u], rfl, hT, (by decide : ¬ (HT.sIx 4 0 none = 0 ∧ HT.sIx 4 4 (some 3) = 4)), fun p' hp => ?_⟩
  have s3 := same_new (o := .tup (cutV [x, y, z, u] none (some 3))) hp
  exact q _ _ _ (s2.trans s3) (.tup (.inl (.inl upd_same)) (.cons (a1.mono s3) (.cons (a2.mono s3) (.cons (a3.mono s3) .nil)))) rfl
theorem evd_listOf {ds : List PyData} (h : EvD K te σ H (.tuple ds)) : EvD K (tCB (fun xs H Q => ∃ p ys, xs = [.ref p] ∧ (SqL K H p ys ∨ SqT K H p ys) ∧ ∀ l, H l = none → Q (.ref l) (upd H l (.lst ys))) (tCons te tNil)) σ H (.list []) := fun H1 s Q q => h.run s fun v H2 s2 p2 => by
  obtain ⟨p, xs, rfl, hT, hA⟩ := p2.tupE
  exact ⟨p, xs, rfl, .inr hT, fun l hl => q _ _ _ (s2.trans (same_new hl)) (.lst (.inl (.inl upd_same))) rfl⟩
theorem evd_told {E : XK} {ta : TA} {i : Nat} {d e : PyData} {z : Str} (h : EvA K ta σ H [.int (i : Nat), d, e]) (t : Told1 i d e z) : EvD K (tCall (spTold K) [] E ta) σ H (.str z) := fun H1 s Q q => h H1 s _ fun vs H2 s2 p2 => by
  obtain ⟨a, x, y, rfl, d1, d2, d3⟩ := p2.three
  cases d1
  exact ⟨x, y, i, d, e, z, rfl, d2, d3, t, fun H' s' => q _ H' _ (s2.trans s') (.str z) rfl⟩
theorem evq_par3 {D : Ends} {u : TS} {i j l : Nat} {a b c : PyData} {ta : TA} (h : EvA K ta σ H [a, b, c]) (q : ∀ x y z H1, Same H H1 → Dq K H1 x a → Dq K H1 y b → Dq K H1 z c → u D (((σ.set i (some x)).set j (some y)).set l (some z)) H1) : tSeq (tPar3 i j l ta) u D σ H := h H (Same.refl H) _ fun vs H1 s p => by
  obtain ⟨x, y, z, rfl, d1, d2, d3⟩ := p.three
  exact ⟨x, y, z, rfl, q x y z H1 s d1 d2 d3⟩
end
end K96

set_option maxRecDepth 100000
set_option maxHeartbeats 2000000
/-! _law_doors -/
namespace K96
open PySem PySem.Spec PyProof.Rows L2 KD Ladm
section
variable {P : Program} {w : World} {K : PySem.W.Frag} {mg : Str → Option Value} {base : Heap}
def spDoors (K : PySem.W.Frag) : Sp := fun vs H Q _ => ∃ (b : Sack) (xl x : V) (lt : List Str) (L : Lad) (k : Nat), vs = [.ref b.a, xl, x] ∧ Bag H b k ∧ k ≤ 1000000 ∧ Dq K H xl (letD lt) ∧ Dq K H x (ladD lt L) ∧ Valid lt L ∧ Lets lt ∧
  ∀ H', Fr b.a H H' → Bag H' b (k + 1) → Q (.bl true) H'
theorem ok_l_doors (T : Txt K mg) : FnOk P w K mg base CX0 8 T.A_l_doors.f T.A_l_doors.d ["bag", "letters", "ladder"] (spDoors K) := by
  refine T.A_l_doors.F.ok sc_l_doors (fun vs H Q E h => ?_) (fun cdv A outer s H vs Q E hr h => ?_)
  · obtain ⟨_, _, _, _, _, _, rfl, _⟩ := h; rfl
  · obtain ⟨b, xl, x, lt, L, k, rfl, hb, hk, hl, hx, va, lets, q⟩ := h
    refine ⟨_, ((pss_cons (ps_par3 (i := 3) (j := 4) (l := 5) (by rfl) sc_l_doors.nd rfl rfl rfl (by decide) (by decide) (by decide) rfl rfl rfl (pa_cons (pe_ix (kIxT (K := K)) (pv 2) pe_int (fun _ _ => rfl)) (pa_cons (pe_ix (kIxT (K := K)) (pv 2) pe_int (fun _ _ => rfl)) (pa_cons (pe_callB (kLen (K := K)) (by rfl) T.n_len (by decide +kernel) (pa_cons (pv 1) pa_nil)) pa_nil))) (by rfl))
  (pss_cons (ps_set (i := 6) sc_l_doors.nd rfl (.inl rfl) (pe_lst (pa_cons pe_non (pa_cons (pe_tup pa_nil) (pa_cons (pe_slice (kSlT (K := K)) (pv 2) po_none (po_some pe_int)) (pa_cons (pe_callTy (kListOf (K := K)) (by rfl) T.n_list (by decide +kernel) (pa_cons (pv 2) pa_nil)) (pa_cons (pe_tup (pa_cons (pv 1) (pa_cons (pe_un un_neg pe_int) (pa_cons (pv 3) (pa_cons (pv 4) pa_nil))))) (pa_cons (pe_tup (pa_cons (pv 1) (pa_cons pe_bl (pa_cons (pv 3) (pa_cons (pv 4) pa_nil))))) (pa_cons (pe_tup (pa_cons (pv 1) (pa_cons pe_int (pa_cons (pv 3) (pa_cons (pe_op (kCatT (K := K)) (pv 4) (pe_tup (pa_cons pe_int pa_nil))) pa_nil))))) (pa_cons (pe_tup (pa_cons (pv 1) (pa_cons pe_int (pa_cons (pe_tup pa_nil) (pa_cons (pe_tup pa_nil) pa_nil))))) pa_nil))))))))))
  (pss_cons (ps_set (i := 6) sc_l_doors.nd rfl (.inl rfl) (pe_op op_cat (pv 6) (pe_lst (pa_cons (pe_tup (pa_cons (pv 1) (pa_cons pe_int (pa_cons (pe_tup (pa_cons (pe_op (op_repU (K := K)) (pe_tup (pa_cons (pe_tup (pa_cons pe_int (pa_cons pe_int pa_nil))) pa_nil)) (pv 5)) pa_nil)) (pa_cons (pe_tup (pa_cons pe_int pa_nil)) pa_nil))))) (pa_cons (pe_tup (pa_cons (pv 1) (pa_cons pe_int (pa_cons (pe_tup (pa_cons (pe_op (op_repU (K := K)) (pe_tup (pa_cons (pe_tup (pa_cons (pe_un un_neg pe_int) (pa_cons pe_int pa_nil))) pa_nil)) (pv 5)) pa_nil)) (pa_cons (pe_tup (pa_cons pe_int pa_nil)) pa_nil))))) (pa_cons (pe_tup (pa_cons (pv 1) (pa_cons pe_int (pa_cons (pe_tup (pa_cons (pe_op (op_repU (K := K)) (pe_tup (pa_cons (pe_tup (pa_cons pe_int (pa_cons pe_int pa_nil))) pa_nil)) (pe_op op_add (pv 5) pe_int)) pa_nil)) (pa_cons (pe_tup (pa_cons pe_int pa_nil)) pa_nil))))) pa_nil))))))
  (pss_cons (ps_expr (pe_bm PySem.F.plainAttrs_list PySem.F.slot_list_append PySem.F.type_list_append mt_append (pv 6) (pa_cons (pe_tup (pa_cons (pv 1) (pa_cons (pe_op op_add (pe_op op_pow pe_int pe_int) pe_int) (pa_cons (pv 3) (pa_cons (pv 4) pa_nil))))) pa_nil)))
  (pss_cons (ps_set (i := 7) sc_l_doors.nd rfl (.inr rfl) (pe_ix (kIxL (K := K)) (pv 6) (pe_call (ok_l_pick T) (hr.mono (by decide)) (by rfl) T.A_l_pick.g T.A_l_pick.F.kp T.A_l_pick.b .nil pass0 (pa_cons (pv 0) (pa_cons (pe_callB (kLen (K := K)) (by rfl) T.n_len (by decide +kernel) (pa_cons (pv 6) pa_nil)) pa_nil))) (fun _ _ => rfl)))
  (pss_cons (ps_if (PW.pt (pw_or (pt_cmpR op_notBl (pe_call (ok_is_ladder T) (hr.mono (by decide)) (by rfl) T.A_is_ladder.g T.A_is_ladder.F.kp T.A_is_ladder.b .nil pass0 (pa_cons (pv 2) pa_nil)) pe_bl (nomark _)) (pw_or1 (pt_cmpR op_notBl (pe_call (ok_is_ladder T) (hr.mono (by decide)) (by rfl) T.A_is_ladder.g T.A_is_ladder.F.kp T.A_is_ladder.b .nil pass0 (pa_cons (pv 7) pa_nil)) pe_bl (nomark _))))) (pss_one (ps_ret pe_bl)) pss_nil)
  (pss_cons (ps_set (i := 8) sc_l_doors.nd rfl (.inl rfl) (pe_tup (pa_cons (pe_tup (pa_cons pe_str pa_nil)) (pa_cons pe_int (pa_cons (pe_tup (pa_cons (pe_tup (pa_cons pe_non pa_nil)) pa_nil)) (pa_cons (pe_tup (pa_cons pe_int pa_nil)) pa_nil))))))
  (pss_cons (ps_set (i := 9) sc_l_doors.nd rfl (.inl rfl) (pe_op op_cat (pe_lc (own := [("which", 10)]) (g := gName 10) (tt := tYes) rfl sc_l_doors.nd (pi_range1 rfl T.n_range (pa_cons pe_int pa_nil)) (blkOk_by (own := [("which", 10)]) (N := ["bag", "letters", "ladder", "rows", "ends", "many", "odd", "bad", "strange", "words", "which"]) (sc := defScope s_l_doors) (by decide +kernel)) (fun _ _ _ _ _ => (pg_name (i := 10) sc_l_doors.nd rfl (.inl rfl))) (fun _ _ _ _ _ => pts_nil) (fun _ _ _ _ _ => (pe_call (ok_l_told T) (hr.mono (by decide)) (by rfl) T.A_l_told.g T.A_l_told.F.kp T.A_l_told.b .nil pass0 (pa_cons (pv 10) (pa_cons (pv 7) (pa_cons pe_non pa_nil)))))) (pe_lst (pa_cons (pe_call (ok_l_told T) (hr.mono (by decide)) (by rfl) T.A_l_told.g T.A_l_told.F.kp T.A_l_told.b .nil pass0 (pa_cons pe_int (pa_cons (pv 2) (pa_cons (pe_tup (pa_cons (pv 5) pa_nil)) pa_nil)))) (pa_cons (pe_call (ok_l_told T) (hr.mono (by decide)) (by rfl) T.A_l_told.g T.A_l_told.F.kp T.A_l_told.b .nil pass0 (pa_cons pe_int (pa_cons (pv 2) (pa_cons (pv 7) pa_nil)))) (pa_cons (pe_call (ok_l_told T) (hr.mono (by decide)) (by rfl) T.A_l_told.g T.A_l_told.F.kp T.A_l_told.b .nil pass0 (pa_cons pe_int (pa_cons (pv 2) (pa_cons (pv 8) pa_nil)))) pa_nil))))))
  (pss_one (ps_ret (pe_cmpR (kEqD (K := K) (hu64 hr)) (pv 9) (pe_op op_cat (pe_op op_rep (pe_lst (pa_cons pe_str pa_nil)) pe_int) (pe_lst (pa_cons pe_str (pa_cons pe_str (pa_cons pe_str pa_nil))))) (nomark _))))))))))))), ?_⟩
    have l12 := lets.len
    have lm : (lt.map PyData.str).length = lt.length := List.length_map ..
    refine evq_par3 (K := K) (eva_cons (evd_ixT (i := 2) (evd_v 2 rfl hx) evd_int rfl) (eva_cons (evd_ixT (i := 3) (evd_v 2 rfl hx) evd_int rfl) (eva_cons (evd_lenT (evd_v 1 rfl hl)) eva_nil))) fun xr xe xm H1 s1 dr de dm => ?_
    rw [lm] at dm
    have hl1 := hl.mono s1
    have hx1 := hx.mono s1
    have bg1 := hb.mono s1
    have lc := evd_v (K := K) (σ := [some (.ref b.a), some xl, some x, some xr, some xe, some xm, none, none, none, none, none]) 1 rfl hl1
    have rc := evd_v (K := K) (σ := [some (.ref b.a), some xl, some x, some xr, some xe, some xm, none, none, none, none, none]) 3 rfl dr
    have ec := evd_v (K := K) (σ := [some (.ref b.a), some xl, some x, some xr, some xe, some xm, none, none, none, none, none]) 4 rfl de
    have few : L.ends.length ≤ 100 := by rw [va.wf.len]; exact va.few
    refine evq_setL (K := K) (ds := oddA lt L) (evl_lst (eva_cons evd_non (eva_cons (evd_tup eva_nil (by simp)) (eva_cons (evd_sl3 (evd_v 2 rfl hx1)) (eva_cons (evd_listOf (evd_v 2 rfl hx1)) (eva_cons (evd_tup (eva_cons lc (eva_cons (evd_neg evd_int) (eva_cons rc (eva_cons ec eva_nil)))) (by simp)) (eva_cons (evd_tup (eva_cons lc (eva_cons evd_bl (eva_cons rc (eva_cons ec eva_nil)))) (by simp))
      (eva_cons (evd_tup (eva_cons lc (eva_cons evd_int (eva_cons rc (eva_cons (evd_cat ec (evd_tup (eva_cons evd_int eva_nil) (by simp)) (by rw [List.length_map]; simp; omega)) eva_nil)))) (by simp)) (eva_cons (evd_tup (eva_cons lc (eva_cons evd_int (eva_cons (evd_tup eva_nil (by simp)) (eva_cons (evd_tup eva_nil (by simp)) eva_nil)))) (by simp)) eva_nil)))))))) (by simp [oddA])) fun p xs H2 hp s2 e2 d2 => ?_
    have s12 := s1.trans s2
    have lc := evd_v (K := K) (σ := [some (.ref b.a), some xl, some x, some xr, some xe, some xm, some (.ref p), none, none, none, none]) 1 rfl (hl.mono s12)
    have mc := evd_v (K := K) (σ := [some (.ref b.a), some xl, some x, some xr, some xe, some xm, some (.ref p), none, none, none, none]) 5 rfl (dm.mono s2)
    refine evq_setL (K := K) (ds := oddA lt L ++ oddB lt) (evl_cat (evls_v e2 d2 (evr_v 6 rfl)) (EvL.ls (evl_lst (eva_cons (evd_tup (eva_cons lc (eva_cons evd_int (eva_cons (evd_tup (eva_cons (evd_rep1 (evd_tup (eva_cons (evd_tup (eva_cons evd_int (eva_cons evd_int eva_nil)) (by simp)) eva_nil) (by simp)) mc l12.1 (by omega)) eva_nil) (by simp)) (eva_cons (evd_tup (eva_cons evd_int eva_nil) (by simp)) eva_nil)))) (by simp))
      (eva_cons (evd_tup (eva_cons lc (eva_cons evd_int (eva_cons (evd_tup (eva_cons (evd_rep1 (evd_tup (eva_cons (evd_tup (eva_cons (evd_neg evd_int) (eva_cons evd_int eva_nil)) (by simp)) eva_nil) (by simp)) mc l12.1 (by omega)) eva_nil) (by simp)) (eva_cons (evd_tup (eva_cons evd_int eva_nil) (by simp)) eva_nil)))) (by simp))
      (eva_cons (evd_tup (eva_cons lc (eva_cons evd_int (eva_cons (evd_tup (eva_cons (evd_rep1 (k := lt.length + 1) (evd_tup (eva_cons (evd_tup (eva_cons evd_int (eva_cons evd_int eva_nil)) (by simp)) eva_nil) (by simp)) (evd_ar (g := fun i j => i + j) mc evd_int) (by omega) (by omega)) eva_nil) (by simp)) (eva_cons (evd_tup (eva_cons evd_int eva_nil) (by simp)) eva_nil)))) (by simp)) eva_nil))) (by simp [oddB]))) (by simp [oddA, oddB])) fun p2 ys H3 hp2 s3 e3 d3 => ?_
    have s13 := s12.trans s3
    have lc := evd_v (K := K) (σ := [some (.ref b.a), some xl, some x, some xr, some xe, some xm, some (.ref p2), none, none, none, none]) 1 rfl (hl.mono s13)
    have rc := evd_v (K := K) (σ := [some (.ref b.a), some xl, some x, some xr, some xe, some xm, some (.ref p2), none, none, none, none]) 3 rfl (dr.mono (s2.trans s3))
    have ec := evd_v (K := K) (σ := [some (.ref b.a), some xl, some x, some xr, some xe, some xm, some (.ref p2), none, none, none, none]) 4 rfl (de.mono (s2.trans s3))
    have ly : ys.length = 11 := d3.length
    refine evq_append (K := K) (d := oddC lt L) e3 (by omega) (evr_v 6 rfl) (evd_tup (eva_cons lc (eva_cons (evd_ar (g := fun i j => i + j) (evd_arC (C := CPow) (g := fun i j => i ^ j.toNat) evd_int evd_int ⟨by decide, by decide, by decide⟩) evd_int) (eva_cons rc (eva_cons ec eva_nil)))) (by simp)) fun y H4 s4 dy => ?_
    have hfree : H p2 = none := s12.free hp2
    have s14 := s13.trans s4
    have hp2' : H2 p2 = none := hp2
    have sA : Same H (upd H4 p2 (.lst (ys ++ [y]))) := same_mut s14 hfree
    have kA : Kp H4 (upd H4 p2 (.lst (ys ++ [y]))) := .updL (s4 _ _ e3)
    have dA : DqAll K (upd H4 p2 (.lst (ys ++ [y]))) (ys ++ [y]) (oddA lt L ++ oddB lt ++ [oddC lt L]) := ((d3.mono s4).snoc dy).kp kA
    generalize hHA : upd H4 p2 (.lst (ys ++ [y])) = HA at sA kA dA ⊢
    have eA : HA p2 = some (.lst (ys ++ [y])) := by rw [← hHA]; exact upd_same
    refine evq_asg ?_
    refine ⟨.ref p2, rfl, ?_⟩
    have bgA := hb.mono sA
    have lz : (ys ++ [y]).length = 12 := by rw [List.length_append, ly]; rfl
    have len : EvD K (tCB (rLenS K) (tCons (tVar 6) tNil)) [some (.ref b.a), some xl, some x, some xr, some xe, some xm, some (.ref p2), none, none, none, none] HA (.int ((12 : Nat) : Int)) := evd_is (evd_lenLs (K := K) (.inl (.inl eA)) (evr_v 6 rfl)) (by rw [lz])
    refine call_pick (K := K) rfl bgA len (by decide) (by decide) (by omega) fun g H5 hg f5 b5 => ?_
    have kp5 := bgA.kp b5 f5
    have pa := (hb.ne hfree).1
    have e5 := f5 p2 _ pa eA
    have d5 := dA.kp kp5
    have lD : (oddA lt L ++ oddB lt ++ [oddC lt L]).length = 12 := rfl
    obtain ⟨bd, hbd⟩ : ∃ bd, (oddA lt L ++ oddB lt ++ [oddC lt L])[g]? = some bd := ⟨_, List.getElem?_eq_getElem (by rw [lD]; exact hg)⟩
    obtain ⟨bv, hbv, dbv⟩ := d5.get hbd
    obtain ⟨la, nb⟩ := odd_bad va (List.mem_of_getElem? hbd)
    have fr5 : Fr b.a H H5 := (Fr.of sA).trans f5
    refine ⟨p2, ys ++ [y], g, bv, rfl, rfl, .inl (.inl e5), atI_nat hbv, ?_⟩
    have hx5 : Dq K H5 x (ladD lt L) := (hx.mono sA).kp kp5
    have bad0 : ∀ {σ : L2.St} {v : V} {d : PyData} {c : Bool} {i : Nat} {H6 : Hp}, σ[i]? = some (some v) → Dq K H6 v d → LadArg d → isLadD d = c → EvD K (tCall (spIsLadder K) [] E0 (tCons (tVar i) tNil)) σ H6 (.bool c) := fun e dv a hc => (evp_call (eva_cons (evd_v _ e dv) eva_nil) ⟨_, rfl, a⟩).imp fun r ⟨d', e1, er⟩ => by cases e1; rw [er, hc]
    refine evq_ifn (b := false) (evb_is (evb_or (a := false) (evb_test (K := K) (evd_notB (a := true) (b := true) (bad0 rfl hx5 (ladArg_of va.ok) (isLad_of va)) evd_bl)) fun _ => evb_test (K := K) (evd_notB (a := false) (b := false) (bad0 rfl dbv la nb) evd_bl)) rfl) (fun z => nomatch z) fun _ H6 s6 => ?_
    refine evq_setD (K := K) (d := ladD ["q"] strL) (evd_tup (eva_cons (evd_tup (eva_cons evd_str eva_nil) (by first | decide | simp | (simp [strL]))) (eva_cons evd_int (eva_cons (evd_tup (eva_cons (evd_tup (eva_cons evd_non eva_nil) (by first | decide | simp | (simp [strL]))) eva_nil) (by first | decide | simp | (simp [strL]))) (eva_cons (evd_tup (eva_cons evd_int eva_nil) (by first | decide | simp | (simp [strL]))) eva_nil)))) (by first | decide | simp | (simp [strL]))) fun sv H7 s7 dsv => ?_
    have s67 := s6.trans s7
    have hb7 := dbv.mono s67
    have hx7 := hx5.mono s67
    have dm7 : Dq K H7 xm (.int (lt.length : Nat)) := ((dm.mono (s2.trans (s3.trans s4))).kp (hHA ▸ kA)).kp kp5 |>.mono s67
    refine evq_setL (K := K) (ds := (nats 4).map (fun _ => PyData.str "ladder") ++ [.str "word", .str "other", .str "unlike"]) (evl_cat (EvL.ls (evl_map (evi_range1 (n := 4) evd_int (by decide)).same (by decide) _ fun d xe H8 hd s8 dxe => ?_)) (EvL.ls (evl_lst (eva_cons (evd_told (i := 0) (eva_cons evd_int (eva_cons (evd_v 2 rfl hx7) (eva_cons (evd_tup (eva_cons (evd_v 5 rfl dm7) eva_nil) (by simp)) eva_nil))) (.word va (by simp [wordD, withinD]; try omega))) (eva_cons (evd_told (i := 3) (eva_cons evd_int (eva_cons (evd_v 2 rfl hx7) (eva_cons (evd_v 7 rfl hb7) eva_nil))) (.other va la nb)) (eva_cons (evd_told (i := 3) (eva_cons evd_int (eva_cons (evd_v 2 rfl hx7) (eva_cons (evd_v 8 rfl dsv) eva_nil))) (.unlike va str_valid lets.odd)) eva_nil))) (by simp))) (by simp [nats])) fun p9 zs H9 hp9 s9 e9 d9 => ?_
    · obtain ⟨i, hi⟩ := List.mem_iff_getElem?.mp hd
      obtain ⟨h4, rfl⟩ := nats_get hi
      exact evd_told (eva_cons (evd_v 10 rfl dxe) (eva_cons (evd_v 7 rfl (hb7.mono s8)) (eva_cons evd_non eva_nil))) (.ladder h4 la nb)
    refine evs_retD (K := K) (d := .bool true) (evd_is (evd_eqLL (n := 0) (es := List.replicate 4 (PyData.str "ladder") ++ [.str "word", .str "other", .str "unlike"]) (evls_v e9 d9 (evr_v 9 rfl)) (EvL.ls (evl_cat (EvL.ls (evl_rep (n := 4) (EvL.ls (evl_lst (eva_cons evd_str eva_nil) (by simp))) evd_int (by decide))) (EvL.ls (evl_lst (eva_cons evd_str (eva_cons evd_str (eva_cons evd_str eva_nil))) (by simp))) (by simp))) ?_ ?_ (by decide)) ?_) fun v H10 s10 p10 => ?_
    · intro d hd
      simp [nats] at hd
      rcases hd with ⟨_, rfl⟩ | rfl | rfl | rfl <;> exact good_str (by decide +kernel)
    · intro d hd
      simp at hd
      rcases hd with rfl | rfl | rfl | rfl <;> exact good_str (by decide +kernel)
    · simp [nats, List.range, List.range.loop, List.replicate, PyData.eqvAll, PyData.eqv]
    · cases p10
      have sE := (s67.trans s9).trans s10
      exact q H10 (fr5.trans (Fr.of sE)) (b5.mono sE)
end
end K96

set_option maxRecDepth 100000
set_option maxHeartbeats 2000000
/-! what the law reads -/
namespace K96
open PySem PySem.Spec PyProof.Rows L2 KD Ladm
abbrev NoX : XK := fun _ _ _ => False
theorem passL {X : Cx} : Passes (L2.CX X.prog X.w) X NoX := fun _ _ _ _ _ _ _ ⟨_, _, _, _, _, _, _, _, _, _, _, _, e⟩ => e.elim
theorem fits_of {lt : List Str} {B : Int} {L : Lad} (ok : LetOk lt) (wf : Wf lt.length L) (n : L.rows.length ≤ 63) (b : Bnd B L) (hB : B ≤ 1000000) : Fits lt B L := ⟨⟨ok, wf, by omega, b.mono hB⟩, n, b⟩
theorem fits_turn {lt : List Str} {L : Lad} (f : Fits lt 3 L) (h : L.rows.length ≤ 60) : Fits lt 3 (turnL lt.length L) :=
  fits_of f.v.ok (turn_wf f.v.wf) (by rw [turn_len]; omega) ⟨f.b.f0, f.b.f1, fun r hr p t hm => by
    rcases turn_ents hr hm with rfl | ⟨r', hr', t', hm'⟩
    · decide
    · exact f.b.ent r' hr' p t' hm', fun c hc => by
    rcases turn_tips hc with rfl | h
    · decide
    · exact f.b.tip c h⟩ (by decide)
theorem fits_made {lt : List Str} {L T : Lad} (f : Fits lt 3 L) (h : L.rows.length ≤ 4) (m : Made lt 3 L T) : Fits lt 15 T :=
  fits_of f.v.ok m.1.wf (by have := m.2.2.2; omega) (m.2.2.1.mono (by omega)) (by decide)
section
variable {K : PySem.W.Frag} {H : Hp} {σ : L2.St} {te ta tb : TE} {E : XK} {C CL CO CU : Addr}
theorem evp_leastC {lt : List Str} {B : Int} {L : Lad} (h : EvD K te σ H (ladD lt L)) (f : Fits lt B L) : EvP K (tCall (spLeast K C) [] E (tCons te tNil)) σ H (fun r => ∃ T, r = ladD lt T ∧ Made lt B L T) := fun H1 s Q q => h.run s fun v H2 s2 p2 =>
  ⟨v, _, rfl, p2, .inl ⟨lt, B, L, rfl, f, fun T u H3 s3 p3 m => q u H3 _ (s2.trans s3) p3 ⟨T, rfl, m⟩⟩⟩
/-- a ladder like one whose least is known -/
theorem evd_leastC {lt : List Str} {B : Int} {L T : Lad} (h : EvD K te σ H (ladD lt L)) (f : Fits lt B L) (i : IsLeast lt.length T) (c : ∀ w, L.cost w = T.cost w) : EvD K (tCall (spLeast K C) [] E (tCons te tNil)) σ H (ladD lt T) :=
  (evp_leastC h f).imp fun r ⟨T', e, m⟩ => by rw [e, least_uniq m.1 i fun w => (m.2.1 w).trans (c w)]
theorem evd_leastK {lt : List Str} {B : Int} {L T : Lad} (h : EvD K te σ H (ladD lt L)) (f : Fits lt B L) (i : IsLeast lt.length T) (c : ∀ w, L.cost w = T.cost w) : EvD K (tCallN 0 1 (spLeast K C) gW E tNil (tCons te tNil)) σ H (ladD lt T) := fun H1 s Q q => h.run s fun v H2 s2 p2 =>
  ⟨rfl, rfl, v, _, rfl, p2, .inl ⟨lt, B, L, rfl, f, fun T' u H3 s3 p3 m => q u H3 _ (s2.trans s3) p3 (by rw [least_uniq m.1 i fun w => (m.2.1 w).trans (c w)])⟩⟩
theorem evp_isLeastC {lt : List Str} {B : Int} {L : Lad} (h : EvD K te σ H (ladD lt L)) (f : Fits lt B L) : EvP K (tCall (spIsLeast K C) [] E (tCons te tNil)) σ H (fun r => ∃ b : Bool, r = .bool b ∧ (b = true ↔ IsLeast lt.length L)) := fun H1 s Q q => h.run s fun v H2 s2 p2 =>
  ⟨v, _, rfl, p2, .inl ⟨lt, B, L, rfl, f, fun b H3 s3 e => q _ H3 _ (s2.trans s3) (.bl b) ⟨b, rfl, e⟩⟩⟩
theorem evp_sameC {lt : List Str} {B B' : Int} {L M : Lad} (h : EvD K ta σ H (ladD lt L)) (h2 : EvD K tb σ H (ladD lt M)) (f : Fits lt B L) (g : Fits lt B' M) : EvP K (tCall (spSame K CL CO CU) [] E (tCons ta (tCons tb tNil))) σ H (fun r => ∃ b : Bool, r = .bool b ∧ (b = true ↔ ∀ w, L.cost w = M.cost w)) := fun H1 s Q q => h.run s fun v H2 s2 p2 => h2.run (s.trans s2) fun u H3 s3 p3 =>
  ⟨v, u, _, _, rfl, p2.mono s3, p3, .inl ⟨lt, B, L, B', M, rfl, rfl, f, g, fun b H4 s4 e => q _ H4 _ ((s2.trans s3).trans s4) (.bl b) ⟨b, rfl, e⟩⟩⟩
theorem evp_sameK {lt : List Str} {B B' : Int} {L M : Lad} (h2 : EvD K tb σ H (ladD lt M)) (h : EvD K ta σ H (ladD lt L)) (f : Fits lt B L) (g : Fits lt B' M) : EvP K (tCallN 0 2 (spSame K CL CO CU) gR E tNil (tCons tb (tCons ta tNil))) σ H (fun r => ∃ b : Bool, r = .bool b ∧ (b = true ↔ ∀ w, L.cost w = M.cost w)) := fun H1 s Q q => h2.run s fun v H2 s2 p2 => h.run (s.trans s2) fun u H3 s3 p3 =>
  ⟨rfl, rfl, u, v, _, _, rfl, p3, p2.mono s3, .inl ⟨lt, B, L, B', M, rfl, rfl, f, g, fun b H4 s4 e => q _ H4 _ ((s2.trans s3).trans s4) (.bl b) ⟨b, rfl, e⟩⟩⟩
theorem evd_lcost {lt : List Str} {L : Lad} {w : List Nat} (h : EvD K ta σ H (ladD lt L)) (h2 : EvD K tb σ H (wordE w)) (wf : Wf lt.length L) (hw : ∀ a ∈ w, a < lt.length) : EvD K (tCall (spLCost K) [] E (tCons ta (tCons tb tNil))) σ H (tipD (L.cost w)) :=
  (evp_call (eva_cons h (eva_cons h2 eva_nil)) ⟨lt, L, w, rfl, wf, hw⟩).imp fun r ⟨lt', L', w', e, er⟩ => by
    have h1 := ladD_inj (List.cons.inj e).1
    have h2 := wordE_inj (List.cons.inj (List.cons.inj e).2).1
    rw [er, h1.2, h2]
theorem evd_cost {lt : List Str} {L : Lad} {w : List Nat} (h : EvD K ta σ H (ladD lt L)) (h2 : EvD K tb σ H (wordE w)) (v : Valid lt L) (n : w.length ≤ 1000) (hw : ∀ a ∈ w, a < lt.length) : EvD K (tCall (spLadderCost K CL CO) [] E (tCons ta (tCons tb tNil))) σ H (tipD (L.cost w)) :=
  (evp_callE (eva_cons h (eva_cons h2 eva_nil)) ⟨_, _, rfl, .good v n hw⟩ (fun C hC => by
    rcases hC with ⟨_, d, x, e, no⟩ | ⟨_, lt', L', x, e, _, no⟩
    · have h1 := (List.cons.inj e).1
      rw [← h1, isLad_of v] at no
      cases no
    · have h1 := (ladD_inj (List.cons.inj e).1).1
      have h2 : wordE w = x := (List.cons.inj (List.cons.inj e).2).1
      rw [← h1, ← h2, word_of n hw] at no
      cases no)).imp fun r ⟨lt', L', w', e, er, _⟩ => by
    have h1 := ladD_inj (List.cons.inj e).1
    have h2 := wordE_inj (List.cons.inj (List.cons.inj e).2).1
    rw [er, h1.2, h2]
theorem evd_lsame {d : PyData} (h : EvD K ta σ H d) (h2 : EvD K tb σ H d) (hs : Sc d = true) : EvD K (tCall (spLSame K) [] E (tCons ta (tCons tb tNil))) σ H (.bool true) :=
  evp_call (eva_cons h (eva_cons h2 eva_nil)) ⟨d, rfl, hs⟩
theorem evd_early {lt : List Str} {B : Int} {L : Lad} (h : EvD K te σ H (ladD lt L)) (il : IsLeast lt.length L) (b : Bnd B L) (l1 : 1 ≤ lt.length) (l6 : lt.length ≤ 6) (n : L.rows.length ≤ 60) : EvD K (tCall (spEarlyL K) [] E (tCons te tNil)) σ H (.bool true) := fun H1 s Q q => h.run s fun v H2 s2 p2 =>
  ⟨v, lt, B, L, rfl, p2, il, b, l1, l6, n, fun H3 s3 => q _ H3 _ (s2.trans s3) (.bl true) rfl⟩
end
end K96

set_option maxRecDepth 100000
set_option maxHeartbeats 2000000
/-! the law -/
namespace K96
open PySem PySem.Spec PyProof.Rows L2 KD Ladm
def lawLevel : Nat := 20
def sp_law (K : PySem.W.Frag) : Sp := fun vs H Q _ => ∃ (a : Addr) (ns : List Int), vs = [.ref a] ∧ SqL K H a (ns.map V.int) ∧ ns.length ≤ 63 ∧ ∀ H', Q (.bl true) H'
theorem sp_law_start {K : PySem.W.Frag} {H : Hp} {a : Addr} {ns : List Int} (hl : ns.length ≤ 63) (hO : Only H) (hS : SqL K H a (ns.map V.int)) : sp_law K [.ref a] H (fun v _ => v = .bl true) fun _ _ _ => False :=
  ⟨a, ns, rfl, hS, hl, fun _ => rfl⟩
def Oth (lt : List Str) (L : Lad) (d : PyData) : Prop := d = .none ∨ ∃ B M, d = ladD lt M ∧ Fits lt B M ∧ ∀ w, M.cost w = L.cost w
theorem moved_all {K : PySem.W.Frag} {H : Hp} {Q : VK} {E : XK} {x : V} {lt : List Str} {L : Lad} {s0 : Nat} (hx : Dq K H x (ladD lt L)) (f : Fits lt 3 L) (h4 : L.rows.length ≤ 4) (hs : s0 < L.rows.length) (q : ∀ v d H', Same H H' → Dq K H' v d → Oth lt L d → Q v H') : spMoved K [x, .int (s0 : Nat), .int 1] H Q E :=
  ⟨x, lt, L, s0, rfl, hx, f.v.wf, f.v.ok.few, by omega, f.b, hs, fun H' s => q .non .none H' s .non (.inl rfl), fun v H' s h0 dv bv => q v _ H' s dv (.inr ⟨4, _, rfl, fits_of f.v.ok (move_wf f.v.wf) (by rw [move_len]; omega) bv (by decide), move_cost f.v.wf h0⟩)⟩
theorem turned_all {K : PySem.W.Frag} {H : Hp} {Q : VK} {E : XK} {x : V} {lt : List Str} {L : Lad} (hx : Dq K H x (ladD lt L)) (f : Fits lt 3 L) (h4 : L.rows.length ≤ 4) (q : ∀ v d H', Same H H' → Dq K H' v d → Oth lt L d → Q v H') : spTurned K [x] H Q E :=
  ⟨x, lt, L, rfl, hx, f.v.wf, f.v.ok.few, by omega, fun v H' s dv => q v _ H' s dv (.inr ⟨3, _, rfl, fits_turn f (by omega), turn_cost f.v.wf⟩)⟩
theorem tip_eqS (a b : Option Int) : eqS (tipD a) (tipD b) = some (decide (a = b)) := by
  cases a <;> cases b <;> simp [eqS, tipD]
theorem tip_sc (a : Option Int) : Sc (tipD a) = true := by cases a <;> rfl
section
variable {P : Program} {w : World} {K : PySem.W.Frag} {mg : Str → Option Value} {base : Heap}
theorem ok_law (T : Txt K mg) : FnOk P w K mg base CX0 lawLevel T.A_law.f T.A_law.d ["script"] (sp_law K) := by
  refine T.A_law.F.ok sc_law (fun vs H Q E h => ?_) (fun cdv A outer s H vs Q E hr h => ?_)
  · obtain ⟨_, _, rfl, _⟩ := h; rfl
  · obtain ⟨a, ns, rfl, hs, _, q⟩ := h
    refine ⟨_, ((pss_cons (ps_set (i := 1) sc_law.nd rfl (.inl rfl) (pe_call (ok_l_bag T) (hr.mono (by decide)) (by rfl) T.A_l_bag.g T.A_l_bag.F.kp T.A_l_bag.b .nil pass0 (pa_cons (pv 0) pa_nil)))
  (pss_cons (ps_for PassesOwn.never rfl (pi_range1 rfl T.n_range (pa_cons pe_int pa_nil)) (pg_name (i := 2) sc_law.nd rfl (.inl rfl))
    (pss_cons (ps_set (i := 3) sc_law.nd rfl (.inl rfl) (pe_call (ok_l_letters T) (hr.mono (by decide)) (by rfl) T.A_l_letters.g T.A_l_letters.F.kp T.A_l_letters.b .nil pass0 (pa_cons (pv 1) (pa_cons pe_int pa_nil))))
  (pss_cons (ps_set (i := 4) sc_law.nd rfl (.inr rfl) (pe_call (ok_l_ladder T) (hr.mono (by decide)) (by rfl) T.A_l_ladder.g T.A_l_ladder.F.kp T.A_l_ladder.b .nil pass0 (pa_cons (pv 1) (pa_cons (pv 3) (pa_cons (pe_op op_add pe_int (pe_call (ok_l_pick T) (hr.mono (by decide)) (by rfl) T.A_l_pick.g T.A_l_pick.F.kp T.A_l_pick.b .nil pass0 (pa_cons (pv 1) (pa_cons pe_int pa_nil)))) pa_nil)))))
  (pss_cons (ps_set (i := 5) sc_law.nd rfl (.inl rfl) (pe_op op_cat (pe_call (ok_l_words T) (hr.mono (by decide)) (by rfl) T.A_l_words.g T.A_l_words.F.kp T.A_l_words.b .nil pass0 (pa_cons (pv 3) (pa_cons pe_int pa_nil))) (pe_lst (pa_cons (pe_call (ok_l_word T) (hr.mono (by decide)) (by rfl) T.A_l_word.g T.A_l_word.F.kp T.A_l_word.b .nil pass0 (pa_cons (pv 1) (pa_cons (pv 3) (pa_cons pe_int pa_nil)))) pa_nil))))
  (pss_cons (ps_set (i := 6) sc_law.nd rfl (.inr rfl) (pe_call (ok_least_ladder T) (hr.mono (by decide)) (by rfl) T.A_least_ladder.g T.A_least_ladder.F.kp T.A_least_ladder.b .nil passL (pa_cons (pv 4) pa_nil)))
  (pss_cons (ps_if (pt_cmpR (kNeD (K := K) (hu64 hr)) (pe_lc (own := [("word", 11)]) (g := gName 11) rfl sc_law.nd (kiList (K := K) (pv 5)) (blkOk_by (own := [("word", 11)]) (N := ["script", "bag", "turn", "letters", "ladder", "words", "least", "others", "other", "free", "unlike", "word"]) (sc := defScope s_law) (by decide +kernel)) (fun _ _ _ _ _ => (pg_name (i := 11) sc_law.nd rfl (.inl rfl))) (fun _ _ _ _ _ => pts_one (PW.pt (pw_or (pt_not (pt_val (pe_call (ok_l_same T) (hr.mono (by decide)) (by rfl) T.A_l_same.g T.A_l_same.F.kp T.A_l_same.b .nil pass0 (pa_cons (pe_call (ok_ladder_cost T) (hr.mono (by decide)) (by rfl) T.A_ladder_cost.g T.A_ladder_cost.F.kp T.A_ladder_cost.b .nil passL (pa_cons (pv 4) (pa_cons (pv 11) pa_nil))) (pa_cons (pe_call (ok_l_cost T) (hr.mono (by decide)) (by rfl) T.A_l_cost.g T.A_l_cost.F.kp T.A_l_cost.b .nil pass0 (pa_cons (pv 4) (pa_cons (pv 11) pa_nil))) pa_nil))))) (pw_or1 (pt_cmpR op_ne (pe_call (ok_l_cost T) (hr.mono (by decide)) (by rfl) T.A_l_cost.g T.A_l_cost.F.kp T.A_l_cost.b .nil pass0 (pa_cons (pv 6) (pa_cons (pv 11) pa_nil))) (pe_call (ok_l_cost T) (hr.mono (by decide)) (by rfl) T.A_l_cost.g T.A_l_cost.F.kp T.A_l_cost.b .nil pass0 (pa_cons (pv 4) (pa_cons (pv 11) pa_nil))) (nomark _)))))) (fun _ _ _ _ _ => (pv 11))) (pe_lst pa_nil) (nomark _)) (pss_one (ps_ret pe_bl)) pss_nil)
  (pss_cons (ps_if (PW.pt (pw_or (pt_not (pt_val (pe_call (ok_l_early T) (hr.mono (by decide)) (by rfl) T.A_l_early.g T.A_l_early.F.kp T.A_l_early.b .nil pass0 (pa_cons (pv 6) pa_nil)))) (pw_or (pt_cmpR op_notBl (pe_call (ok_is_least_ladder T) (hr.mono (by decide)) (by rfl) T.A_is_least_ladder.g T.A_is_least_ladder.F.kp T.A_is_least_ladder.b .nil passL (pa_cons (pv 6) pa_nil)) pe_bl (nomark _)) (pw_or (pt_cmpR (kNeD (K := K) (hu64 hr)) (pe_callK0 (ok_least_ladder T) (hr.mono (by decide)) (by rfl) T.A_least_ladder.g T.A_least_ladder.F.kp (kb_least T) passL (pk_cons (pv 6) pk_nil)) (pv 6) (nomark _)) (pw_or1 (pt_not (pt_val (pe_call (ok_l_same T) (hr.mono (by decide)) (by rfl) T.A_l_same.g T.A_l_same.F.kp T.A_l_same.b .nil pass0 (pa_cons (pe_call (ok_is_least_ladder T) (hr.mono (by decide)) (by rfl) T.A_is_least_ladder.g T.A_is_least_ladder.F.kp T.A_is_least_ladder.b .nil passL (pa_cons (pv 4) pa_nil)) (pa_cons (pe_cmpR (kEqD (K := K) (hu64 hr)) (pv 4) (pv 6) (nomark _)) pa_nil)))))))))) (pss_one (ps_ret pe_bl)) pss_nil)
  (pss_cons (ps_set (i := 7) sc_law.nd rfl (.inl rfl) (pe_lst (pa_cons (pe_call (ok_l_turned T) (hr.mono (by decide)) (by rfl) T.A_l_turned.g T.A_l_turned.F.kp T.A_l_turned.b .nil pass0 (pa_cons (pv 4) pa_nil)) (pa_cons (pe_call (ok_l_moved T) (hr.mono (by decide)) (by rfl) T.A_l_moved.g T.A_l_moved.F.kp T.A_l_moved.b .nil pass0 (pa_cons (pv 4) (pa_cons (pe_call (ok_l_pick T) (hr.mono (by decide)) (by rfl) T.A_l_pick.g T.A_l_pick.F.kp T.A_l_pick.b .nil pass0 (pa_cons (pv 1) (pa_cons (pe_callB (kLen (K := K)) (by rfl) T.n_len (by decide +kernel) (pa_cons (pe_ix (kIxT (K := K)) (pv 4) pe_int (fun _ _ => rfl)) pa_nil)) pa_nil))) (pa_cons pe_int pa_nil)))) pa_nil))))
  (pss_cons (ps_for PassesOwn.never rfl (kiList (K := K) (pv 7)) (pg_name (i := 8) sc_law.nd rfl (.inl rfl))
    (pss_one (ps_if (PW.pt (pw_and (pt_cmpR op_notN (pv 8) pe_non (nomark _)) (pw_and1 (PW.pt (pw_or (pt_cmpR (kNeD (K := K) (hu64 hr)) (pe_call (ok_least_ladder T) (hr.mono (by decide)) (by rfl) T.A_least_ladder.g T.A_least_ladder.F.kp T.A_least_ladder.b .nil passL (pa_cons (pv 8) pa_nil)) (pv 6) (nomark _)) (pw_or1 (pt_cmpR op_notBl (pe_callK0 (ok_same_ladders T) (hr.mono (by decide)) (by rfl) T.A_same_ladders.g T.A_same_ladders.F.kp (kb_same T) passL (pk_cons (pv 8) (pk_cons (pv 4) pk_nil))) pe_bl (nomark _)))))))) (pss_one (ps_ret pe_bl)) pss_nil)))
  (pss_cons (ps_set (i := 9) sc_law.nd rfl (.inr rfl) (pe_call (ok_l_ladder T) (hr.mono (by decide)) (by rfl) T.A_l_ladder.g T.A_l_ladder.F.kp T.A_l_ladder.b .nil pass0 (pa_cons (pv 1) (pa_cons (pv 3) (pa_cons (pe_op op_add pe_int (pe_call (ok_l_pick T) (hr.mono (by decide)) (by rfl) T.A_l_pick.g T.A_l_pick.F.kp T.A_l_pick.b .nil pass0 (pa_cons (pv 1) (pa_cons pe_int pa_nil)))) pa_nil)))))
  (pss_cons (ps_setLc (i := 10) (own := [("word", 11)]) (g := gName 11) rfl sc_law.nd rfl rfl (sw_true rfl rfl rfl (by decide +kernel)) (kiList (K := K) (pv 5)) (blkOk_by (own := [("word", 11)]) (N := ["script", "bag", "turn", "letters", "ladder", "words", "least", "others", "other", "free", "unlike", "word"]) (sc := defScope s_law) (by decide +kernel)) (fun _ _ _ _ _ => (pg_name (i := 11) sc_law.nd rfl (.inl rfl))) (fun _ _ _ _ _ => pts_one (pt_cmpR op_ne (pe_call (ok_l_cost T) (hr.mono (by decide)) (by rfl) T.A_l_cost.g T.A_l_cost.F.kp T.A_l_cost.b .nil pass0 (pa_cons (pv 9) (pa_cons (pv 11) pa_nil))) (pe_call (ok_l_cost T) (hr.mono (by decide)) (by rfl) T.A_l_cost.g T.A_l_cost.F.kp T.A_l_cost.b .nil pass0 (pa_cons (pv 4) (pa_cons (pv 11) pa_nil))) (nomark _))) (fun _ _ _ _ _ => (pv 11)))
  (pss_cons (ps_if (PW.pt (pw_or (pt_not (pt_val (pe_call (ok_l_same T) (hr.mono (by decide)) (by rfl) T.A_l_same.g T.A_l_same.F.kp T.A_l_same.b .nil pass0 (pa_cons (pe_call (ok_same_ladders T) (hr.mono (by decide)) (by rfl) T.A_same_ladders.g T.A_same_ladders.F.kp T.A_same_ladders.b .nil passL (pa_cons (pv 4) (pa_cons (pv 9) pa_nil))) (pa_cons (pe_cmpR (kEqD (K := K) (hu64 hr)) (pe_call (ok_least_ladder T) (hr.mono (by decide)) (by rfl) T.A_least_ladder.g T.A_least_ladder.F.kp T.A_least_ladder.b .nil passL (pa_cons (pv 9) pa_nil)) (pv 6) (nomark _)) pa_nil))))) (pw_or1 (PW.pt (pw_and (pt_cmpR (kNeD (K := K) (hu64 hr)) (pv 10) (pe_lst pa_nil) (nomark _)) (pw_and1 (pt_cmpR op_notBl (pe_call (ok_same_ladders T) (hr.mono (by decide)) (by rfl) T.A_same_ladders.g T.A_same_ladders.F.kp T.A_same_ladders.b .nil passL (pa_cons (pv 4) (pa_cons (pv 9) pa_nil))) pe_bl (nomark _)))))))) (pss_one (ps_ret pe_bl)) pss_nil)
  (pss_one (ps_if (pt_not (pt_val (pe_call (ok_l_doors T) (hr.mono (by decide)) (by rfl) T.A_l_doors.g T.A_l_doors.F.kp T.A_l_doors.b .nil pass0 (pa_cons (pv 1) (pa_cons (pv 3) (pa_cons (pv 4) pa_nil)))))) (pss_one (ps_ret pe_bl)) pss_nil))))))))))))))
  (pss_one (ps_ret pe_bl))))), ?_⟩
    refine evq_asg ?_
    refine ⟨.ref a, rfl, a, ns, rfl, hs, fun b H1 f1 f2 s1 bg1 => ?_⟩
    refine evq_for (K := K) (evi_rangeT (n := 3) evd_int (by decide)) (fun _ i σ' H' => ∃ (x2 x3 x4 x5 x6 x7 x8 x9 x10 : Option V), σ' = [some (.ref a), some (.ref b.a), x2, x3, x4, x5, x6, x7, x8, x9, x10, none] ∧ Bag H' b (1000 * i)) (fun _ _ _ _ _ _ _ => trivial) (fun H2 s2 => ⟨_, _, _, _, _, _, _, _, _, rfl, by simpa using bg1.mono s2⟩) (fun Hb i d σ' H2 x H3 sB hd pv s3 dx => ?_) (fun Hb σ' H2 sB pv => ?_)
    · obtain ⟨x2, x3, x4, x5, x6, x7, x8, x9, x10, rfl, bg2⟩ := pv
      obtain ⟨hi, rfl⟩ := nats_get hd
      have bg3 := bg2.mono s3
      refine evq_asg ?_
      refine ⟨.ref b.a, rfl, b, 1000 * i, rfl, bg3, by omega, fun lt v3 H4 lets fr4 bg4 d3 => ?_⟩
      have l12 := lets.len
      have ok := lets.ok
      refine evq_asg ?_
      refine ⟨.ref b.a, rfl, v3, rfl, ?_⟩
      refine call_pick (K := K) (many := 4) rfl bg4 evd_int (by decide) (by decide) (by omega) fun g H5 hg fr5 bg5 => ?_
      have d35 := d3.kp (bg4.kp bg5 fr5)
      refine ⟨1, (g : Nat), rfl, rfl, b, v3, lt, 1 + g, 1000 * i + 1 + 1, by simp, bg5, by omega, d35, l12.2, by omega, by omega, fun L v4 H6 wf hn bn fr6 bg6 d4 => ?_⟩
      have f : Fits lt 3 L := fits_of ok wf (by omega) bn (by decide)
      have n4 : L.rows.length ≤ 4 := by omega
      have d36 := d35.kp (bg5.kp bg6 fr6)
      refine evq_asg ?_
      refine ⟨v3, rfl, v3, lt, rfl, d36, l12.2, fun p xs ds H7 hp s7 e7 dds hds nds => ?_⟩
      refine ⟨.ref b.a, rfl, v3, rfl, b, v3, lt, _, rfl, bg6.mono s7, by omega, d36.mono s7, l12.1, by omega, fun wd vw H8 hwl hwb fr8 bg8 dw => ?_⟩
      refine ⟨(by decide : 1 ≤ sizeLine), fun q0 hq0 => ?_⟩
      refine ⟨p, q0, xs, [vw], rfl, rfl, (upd_ne (fun z => by rw [← z, fr8 p _ (bg6.ne hp).1 e7] at hq0; cases hq0)).trans (fr8 p _ (bg6.ne hp).1 e7), upd_same, by rw [dds.length, sizeLine_eq]; simp; omega, fun r hr => ?_⟩
      have kp78 := (bg6.mono s7).kp bg8 fr8
      have rb : r ≠ b.a := (bg8.ne ((same_new (o := .lst [vw]) hq0).free hr)).1
      have s9 := (same_new (o := .lst [vw]) hq0).trans (same_new (o := .lst (xs ++ [vw])) hr)
      have e9 : upd (upd H8 q0 (.lst [vw])) r (.lst (xs ++ [vw])) r = some (.lst (xs ++ [vw])) := upd_same
      generalize upd (upd H8 q0 (.lst [vw])) r (.lst (xs ++ [vw])) = H9 at s9 e9 ⊢
      have d39 := ((d36.mono s7).kp kp78).mono s9
      have d49 := ((d4.mono s7).kp kp78).mono s9
      have bg9 := bg8.mono s9
      have dW := ((dds.kp kp78).append (.one dw)).mono s9
      have hW : ∀ d ∈ ds ++ [wordE wd], IsWord lt.length 9 d := fun d hd => by
        rcases List.mem_append.mp hd with h | h
        · obtain ⟨w', e, n, hb⟩ := hds d h
          exact ⟨w', e, by omega, hb⟩
        · rw [List.mem_singleton] at h
          exact ⟨wd, h, hwl, hwb⟩
      have nW : (ds ++ [wordE wd]).length ≤ 101 := by rw [List.length_append]; simp; omega
      generalize ds ++ [wordE wd] = dws at dW hW nW
      generalize xs ++ [vw] = ws at dW e9
      clear kp78 dds hds e7 fr8
      have gl := good_lad ok
      refine evq_set (K := K) (evp_leastC (evd_v 4 rfl d49) f) fun v6 H10 rr s10 d6 mm => ?_
      obtain ⟨L6, rfl, mT⟩ := mm
      have f6 := fits_made f n4 mT
      have n6 : L6.rows.length ≤ 4 := Nat.le_trans mT.2.2.2 n4
      have e10 := s10 _ _ e9
      have d4A := d49.mono s10
      have dWA := dW.mono s10
      refine evq_ifn (b := false) (evb_test (K := K) (evd_is (EvL.ref_neNil (n := 1) (ds := []) (EvL.is (evl_lc (i := 11) (evi_listS (.inl (.inl e10)) dWA (evr_v 5 rfl)) (by omega) (fun _ => none) fun d xe H11 hd s11 dxe => ?_) ?_) (by simp) (by decide)) (by simp))) (fun z => nomatch z) fun _ H11 s11 => ?_
      · obtain ⟨w', rfl, n9, hb⟩ := hW d hd
        have c4 := evd_v (K := K) (σ := [some (.ref a), some (.ref b.a), some x, some v3, some v4, some (.ref r), some v6, x7, x8, x9, x10, some xe]) 4 rfl (d4A.mono s11)
        have c6 := evd_v (K := K) (σ := [some (.ref a), some (.ref b.a), some x, some v3, some v4, some (.ref r), some v6, x7, x8, x9, x10, some xe]) 6 rfl (d6.mono s11)
        have cw := evd_v (K := K) (σ := [some (.ref a), some (.ref b.a), some x, some v3, some v4, some (.ref r), some v6, x7, x8, x9, x10, some xe]) 11 rfl dxe
        exact evb_is (evb_or (a := false) (b := false) (evb_is (evb_not (evb_B (evd_lsame (evd_cost c4 cw f.v (by omega) hb) (evd_lcost c4 cw f.v.wf hb) (tip_sc _)))) rfl) fun _ => evb_is (evb_test (evd_ne (evd_lcost c6 cw f6.v.wf hb) (evd_lcost c4 cw f.v.wf hb) (tip_eqS _ _))) (by simp [mT.2.1])) rfl
      · simp
      classical
      have d4B := d4A.mono s11
      have d6B := d6.mono s11
      have c4 := evd_v (K := K) (σ := [some (.ref a), some (.ref b.a), some x, some v3, some v4, some (.ref r), some v6, x7, x8, x9, x10, none]) 4 rfl d4B
      have c6 := evd_v (K := K) (σ := [some (.ref a), some (.ref b.a), some x, some v3, some v4, some (.ref r), some v6, x7, x8, x9, x10, none]) 6 rfl d6B
      refine evq_ifn (b := false) (evb_is (evb_or (a := false) (b := false) (evb_is (evb_not (evb_B (evd_early c6 mT.1 f6.b l12.1 (by omega) (by omega)))) rfl)
        fun _ => evb_is (evb_or (a := false) (b := false) (evb_is (evb_test (evd_notB (a := true) (b := true) ((evp_isLeastC c6 f6).imp fun r ⟨b', e, i⟩ => by rw [e, i.mpr mT.1]) evd_bl)) rfl)
        fun _ => evb_is (evb_or (a := false) (b := false) (evb_is (evb_test (evd_neG (b := true) (evd_leastK c6 f6 mT.1 fun w => rfl) c6 (gl L6) (gl L6) (by decide) (by decide) (by simp))) rfl)
        fun _ => evb_is (evb_not (evb_B (evd_lsame (d := .bool (decide (IsLeast lt.length L))) ((evp_isLeastC c4 f).imp fun r ⟨b', e, i⟩ => by rw [e]; congr 1; rw [Bool.eq_iff_iff, i]; simp) (evd_eqG (b := decide (IsLeast lt.length L)) c4 c6 (gl L) (gl L6) (by decide) (by decide) ⟨fun h => by rw [least_uniq (of_decide_eq_true h) mT.1 fun w => (mT.2.1 w).symm], fun h => decide_eq_true (by rw [(ladD_inj h).2]; exact mT.1)⟩) rfl))) rfl) rfl) rfl) rfl) (fun z => nomatch z) fun _ H12 s12 => ?_
      have d4C := d4B.mono s12
      have d6C := d6B.mono s12
      refine evq_asg ?_
      refine ⟨v4, rfl, ?_⟩
      refine turned_all (E := E0) d4C f n4 fun vt dt H13 s13 dvt ot => ?_
      refine ⟨v4, rfl, ?_⟩
      have bg13 := (((bg9.mono s10).mono s11).mono s12).mono s13
      refine call_pick (K := K) (many := L.rows.length) rfl bg13 (evd_is (evd_lenT (evd_ixT (i := 2) (evd_v 4 rfl (d4C.mono s13)) evd_int rfl)) (by rw [List.length_map])) (by omega) (by omega) (by omega) fun g2 H14 hg2 fr14 bg14 => ?_
      have kp14 := bg13.kp bg14 fr14
      dsimp only [tCons, tC, tNil, List.append_nil, List.cons_append, List.nil_append]
      refine moved_all ((d4C.mono s13).kp kp14) f n4 hg2 fun vm dm H15 s15 dvm om => ?_
      refine ⟨(by decide : 2 ≤ sizeLine), fun q1 hq1 => ?_⟩
      have s16 := same_new (o := .lst [vt, vm]) hq1
      have e16 : upd H15 q1 (.lst [vt, vm]) q1 = some (.lst [vt, vm]) := upd_same
      generalize upd H15 q1 (.lst [vt, vm]) = H16 at s16 e16 ⊢
      have up : ∀ {v : V} {d : PyData}, Dq K H13 v d → Dq K H16 v d := fun h => ((h.kp kp14).mono s15).mono s16
      have dO : DqAll K H16 [vt, vm] [dt, dm] := .cons (up dvt) (.one (dvm.mono s16))
      have d4D := up (d4C.mono s13)
      have d6D := up (d6C.mono s13)
      have d3D := up (((((d39.mono s10).mono s11).mono s12).mono s13))
      have dWD : DqAll K H16 ws dws := (((((dWA.mono s11).mono s12).mono s13).kp kp14).mono s15).mono s16
      have eWD : H16 r = some (.lst ws) := s16 _ _ (s15 _ _ (fr14 r _ rb (s13 _ _ (s12 _ _ (s11 _ _ e10)))))
      have bgD := (bg14.mono s15).mono s16
      have gD : ∀ d ∈ [dt, dm], Oth lt L d := fun d hd => by
        rcases List.mem_cons.mp hd with rfl | h
        · exact ot
        · rw [List.mem_singleton] at h; rw [h]; exact om
      refine evq_for (K := K) (evi_listS (.inl (.inl e16)) dO (evr_v 7 rfl)) (fun H2 _ σ' H' => ∃ (x8 : Option V), σ' = [some (.ref a), some (.ref b.a), some x, some v3, some v4, some (.ref r), some v6, some (.ref q1), x8, x9, x10, none] ∧ Same H2 H') (fun _ _ _ _ _ _ ⟨_, _, s⟩ => s) (fun H2 s2 => ⟨_, rfl, Same.refl _⟩) (fun H2 j d σ' H' y H'' s2 hd pv s3 dy => ?_) (fun H2 σ' H' s2 pv => ?_)
      · obtain ⟨x8, rfl, s4⟩ := pv
        have sS := (s2.trans s4).trans s3
        have c4 := evd_v (K := K) (σ := [some (.ref a), some (.ref b.a), some x, some v3, some v4, some (.ref r), some v6, some (.ref q1), some y, x9, x10, none]) 4 rfl (d4D.mono sS)
        have c6 := evd_v (K := K) (σ := [some (.ref a), some (.ref b.a), some x, some v3, some v4, some (.ref r), some v6, some (.ref q1), some y, x9, x10, none]) 6 rfl (d6D.mono sS)
        have cy := evd_v (K := K) (σ := [some (.ref a), some (.ref b.a), some x, some v3, some v4, some (.ref r), some v6, some (.ref q1), some y, x9, x10, none]) 8 rfl dy
        refine evs_if (b := false) ?_ (fun z => nomatch z) fun _ H3 s5 => ⟨_, rfl, (s4.trans s3).trans s5⟩
        rcases gD d (List.mem_of_getElem? hd) with rfl | ⟨B, M, rfl, fM, hM⟩
        · exact evb_is (evb_and (a := false) (b := false) (evb_test (evd_notN cy)) fun z => nomatch z) rfl
        · exact evb_is (evb_and (a := true) (b := false) (evb_test (evd_notN cy)) fun _ => evb_is (evb_or (a := false) (b := false) (evb_is (evb_test (evd_neG (b := true) (evd_leastC cy fM mT.1 fun w => (hM w).trans (mT.2.1 w).symm) c6 (gl L6) (gl L6) (by decide) (by decide) (by simp))) rfl) fun _ => evb_test (evd_notB (a := true) (b := true) ((evp_sameK cy c4 f fM).imp fun r ⟨b', e, i⟩ => by rw [e, i.mpr fun w => (hM w).symm]) evd_bl)) rfl) rfl
      obtain ⟨x8, rfl, s4⟩ := pv
      have sE := s2.trans s4
      have bgE := bgD.mono sE
      have d3E := d3D.mono sE
      refine evq_asg ?_
      refine ⟨.ref b.a, rfl, v3, rfl, ?_⟩
      refine call_pick (K := K) (many := 2) rfl bgE evd_int (by decide) (by decide) (by omega) fun g3 H17 hg3 fr17 bg17 => ?_
      have kpA := bgE.kp bg17 fr17
      refine ⟨1, (g3 : Nat), rfl, rfl, b, v3, lt, 1 + g3, _, by simp, bg17, by omega, d3E.kp kpA, l12.2, by omega, by omega, fun F v9 H18 wfF nF bF fr18 bg18 d9 => ?_⟩
      have kpB := bg17.kp bg18 fr18
      have f9 : Fits lt 3 F := fits_of ok wfF (by omega) bF (by decide)
      have d3F := (d3E.kp kpA).kp kpB
      have d4F := ((d4D.mono sE).kp kpA).kp kpB
      have d6F := ((d6D.mono sE).kp kpA).kp kpB
      have dWF := ((dWD.mono sE).kp kpA).kp kpB
      have eWF : H18 r = some (.lst ws) := fr18 r _ rb (fr17 r _ rb (sE _ _ eWD))
      refine evq_setL (K := K) (evl_lc (i := 11) (evi_listS (.inl (.inl eWF)) dWF (evr_v 5 rfl)) (by omega) (fun d => if ∃ w, d = wordE w ∧ F.cost w ≠ L.cost w then some d else none) fun d xe H19 hd s19 dxe => ?_) fun pu xu H20 hpu s20 eu du => ?_
      · obtain ⟨w', rfl, n9, hb⟩ := hW d hd
        have c4 := evd_v (K := K) (σ := [some (.ref a), some (.ref b.a), some x, some v3, some v4, some (.ref r), some v6, some (.ref q1), x8, some v9, x10, some xe]) 4 rfl (d4F.mono s19)
        have c9 := evd_v (K := K) (σ := [some (.ref a), some (.ref b.a), some x, some v3, some v4, some (.ref r), some v6, some (.ref q1), x8, some v9, x10, some xe]) 9 rfl (d9.mono s19)
        have cw := evd_v (K := K) (σ := [some (.ref a), some (.ref b.a), some x, some v3, some v4, some (.ref r), some v6, some (.ref q1), x8, some v9, x10, some xe]) 11 rfl dxe
        have t := evb_test (evd_ne (evd_lcost (E := E0) c9 cw f9.v.wf hb) (evd_lcost (E := E0) c4 cw f.v.wf hb) (tip_eqS _ _))
        by_cases c : F.cost w' = L.cost w'
        · rw [if_neg (fun ⟨w2, e, h⟩ => h (by rw [← wordE_inj e]; exact c))]
          exact evb_is t (by simp [c])
        · rw [if_pos ⟨w', rfl, c⟩]
          exact ⟨evb_is t (by simp [c]), cw⟩
      have d4G := d4F.mono s20
      have d6G := d6F.mono s20
      have d9G := d9.mono s20
      have c4 := fun (H2 : Hp) (s2 : Same H20 H2) => evd_v (K := K) (σ := [some (.ref a), some (.ref b.a), some x, some v3, some v4, some (.ref r), some v6, some (.ref q1), x8, some v9, some (.ref pu), none]) 4 rfl (d4G.mono s2)
      have c6 := fun (H2 : Hp) (s2 : Same H20 H2) => evd_v (K := K) (σ := [some (.ref a), some (.ref b.a), some x, some v3, some v4, some (.ref r), some v6, some (.ref q1), x8, some v9, some (.ref pu), none]) 6 rfl (d6G.mono s2)
      have c9 := fun (H2 : Hp) (s2 : Same H20 H2) => evd_v (K := K) (σ := [some (.ref a), some (.ref b.a), some x, some v3, some v4, some (.ref r), some v6, some (.ref q1), x8, some v9, some (.ref pu), none]) 9 rfl (d9G.mono s2)
      have gU : ∀ d ∈ dws.filterMap (fun d => if ∃ w, d = wordE w ∧ F.cost w ≠ L.cost w then some d else none), ∃ w, d = wordE w ∧ F.cost w ≠ L.cost w := fun d hd => by
        obtain ⟨d', _, h⟩ := List.mem_filterMap.mp hd
        by_cases c : ∃ w, d' = wordE w ∧ F.cost w ≠ L.cost w
        · rw [if_pos c] at h; cases h; exact c
        · rw [if_neg c] at h; cases h
      generalize dws.filterMap (fun d => if ∃ w, d = wordE w ∧ F.cost w ≠ L.cost w then some d else none) = dsu at du gU
      have sm := (evp_sameC (CL := T.X_BadLadder.C) (CO := T.X_BadOther.C) (CU := T.X_Unlike.C) (E := NoX) (c4 _ (Same.refl _)) (c9 _ (Same.refl _)) f f9).imp (P' := fun r => r = .bool (decide (∀ w, L.cost w = F.cost w))) fun r ⟨b', e, i⟩ => by rw [e]; congr 1; rw [Bool.eq_iff_iff, i]; simp
      refine evq_ifn (b := false) (evb_is (evb_or (a := false) (b := false) (evb_is (evb_not (evb_B (evd_lsame (d := .bool (decide (∀ w, L.cost w = F.cost w))) sm
          ((evp_eqG (evp_leastC (c9 _ (Same.refl _)) f9) (c6 _ (Same.refl _)) (fun d ⟨T', e, _⟩ => e ▸ gl T') (fun d e => e ▸ gl L6) (by decide) (by decide)).imp fun r ⟨d, e, b', ⟨T', e1, m1⟩, e2, er, i⟩ => by
            subst e1; subst e2; rw [er]; congr 1; rw [Bool.eq_iff_iff, i, decide_eq_true_iff]
            exact ⟨fun h w => by rw [← mT.2.1 w, ← (ladD_inj h).2, m1.2.1 w], fun h => by rw [least_uniq m1.1 mT.1 fun w => by rw [m1.2.1 w, mT.2.1 w, h w]]⟩) rfl))) rfl)
        fun _ => evb_is (evb_and (a := !decide (dsu = [])) (b := false) (evb_test (evd_neNil (n := 1) (.inl (.inl eu)) du (fun d hd => by obtain ⟨w, rfl, _⟩ := gU d hd; exact Good.tup fun d hd => by obtain ⟨x, _, rfl⟩ := List.mem_map.mp hd; exact good_int _) (by decide) (evr_v 10 rfl)))
          fun hne => evb_is (evb_test (evd_notB (a := false) (b := false) (evd_is sm (by
            congr 1
            refine decide_eq_false fun hall => ?_
            cases dsu with
            | nil => simp at hne
            | cons d _ => obtain ⟨w, _, h⟩ := gU d List.mem_cons_self; exact h (hall w).symm)) evd_bl)) rfl) (by simp)) rfl) (fun z => nomatch z) fun _ H21 s21 => ?_
      have bg21 := (bg18.mono s20).mono s21
      refine ⟨.ref b.a, rfl, v3, rfl, v4, rfl, b, v3, v4, lt, L, _, rfl, bg21, by omega, (d3F.mono s20).mono s21, d4G.mono s21, f.v, lets, fun H22 fr22 bg22 => ?_⟩
      exact ⟨true, rfl, _, _, _, _, _, _, _, _, _, rfl, bg22.more (by omega)⟩
    · obtain ⟨x2, x3, x4, x5, x6, x7, x8, x9, x10, rfl, bg2⟩ := pv
      exact q _
end
end K96

set_option maxRecDepth 100000
namespace K96
open PySem PySem.Spec PyProof.Rows L2 KD
theorem law_ok {P : Program} {w : World} {K : PySem.W.Frag} {mg : Str → Option Value} {fa : Addr} (hmg : mg "law" = some (.ref fa)) (T : Txt K mg) :
    ∃ fd : FuncData, (∀ (s : Shared) (u : Value), BindsTo s fd ⟨[u], []⟩ [("script", u)]) ∧
        ∀ base : Heap, K.In base → base.Ns mainGlobals mg → FnOk P w K mg base CX0 lawLevel fa fd ["script"] (sp_law K) := by
  have e := T.A_law.g
  rw [hmg] at e
  cases e
  refine ⟨T.A_law.d, fun s u => ?_, fun base _ _ => ok_law T⟩
  obtain ⟨oc, od, kV, doc, pm, an, cdv, ct, osl, e, lk, hcd⟩ := T.A_law.F.ex
  rw [e]
  exact .of_eq rfl
end K96
open PySem PySem.W PyProof.Rows
set_option maxHeartbeats 0 in
theorem PySem.Challenge.cw_costslimited_k96_least_ladders_holds : PySem.Challenge.rw_costslimited_k96_least_ladders.Holds := by
  w_on; o_law; k_head; (case hw => w_witness2)
  k_fill
  refine L2.walk_ofK (l := PySem.Challenge.rw_costslimited_k96_least_ladders) (n := 63) (k := K96.lawLevel) (x := "script") (CX := L2.CX0) (sp := K96.sp_law) rfl (by decide) rfl ⟨rfl, by decide, by decide⟩ (fun w h Y => PySem.W.kIn_of Y) ?F (fun K H a ns hl hO hS => K96.sp_law_start hl hO hS) (fun _ _ _ _ h => h)
  case F =>
    intro w mg fa h KX G hmg
    refine' K96.law_ok hmg (K96.txt_mk KX G ?a0 ?l0 ?c0 ?k0 ?a1 ?l1 ?c1 ?k1 ?a2 ?l2 ?c2 ?k2 ?a3 ?l3 ?c3 ?k3 ?a4 ?l4 ?c4 ?k4 ?a5 ?l5 ?c5 ?k5 ?a6 ?l6 ?c6 ?k6 ?a7 ?l7 ?c7 ?k7 ?a8 ?l8 ?c8 ?k8 ?a9 ?l9 ?c9 ?k9 ?a10 ?l10 ?c10 ?k10 ?a11 ?l11 ?c11 ?k11 ?a12 ?l12 ?c12 ?k12 ?a13 ?l13 ?c13 ?k13 ?a14 ?l14 ?c14 ?k14 ?a15 ?l15 ?c15 ?k15 ?a16 ?l16 ?c16 ?k16 ?a17 ?l17 ?c17 ?k17 ?a18 ?l18 ?c18 ?k18 ?a19 ?l19 ?c19 ?k19 ?a20 ?l20 ?c20 ?k20 ?a21 ?l21 ?c21 ?k21 ?a22 ?l22 ?c22 ?k22 ?a23 ?l23 ?c23 ?k23 ?a24 ?l24 ?c24 ?k24 ?a25 ?l25 ?c25 ?k25 ?a26 ?l26 ?c26 ?k26 ?a27 ?l27 ?c27 ?k27 ?a28 ?l28 ?c28 ?k28 ?a29 ?l29 ?c29 ?k29 ?a30 ?l30 ?c30 ?k30 ?a31 ?l31 ?c31 ?k31 ?a32 ?l32 ?c32 ?k32 ?a33 ?l33 ?c33 ?k33 ?a34 ?l34 ?c34 ?k34 ?a35 ?l35 ?c35 ?k35 ?xa0 ?xe0 ?xk0 ?xs0 ?xt0 ?xc0 ?xa1 ?xe1 ?xk1 ?xs1 ?xt1 ?xc1 ?xa2 ?xe2 ?xk2 ?xs2 ?xt2 ?xc2 ?xa3 ?xe3 ?xk3 ?xs3 ?xt3 ?xc3 ?xa4 ?xe4 ?xk4 ?xs4 ?xt4 ?xc4 ?e1_1 ?e1_2 ?e1_3 ?e1_4 ?e2_1 ?e2_2 ?e2_3 ?e2_4 ?e3_1 ?e3_2 ?e3_3 ?e3_4 ?e4_1 ?e4_2 ?e4_3 ?e4_4 ?z0 ?z1 ?z2 ?z3 ?z4 ?z5 ?z6 ?z7 ?z8 ?z9 ?z10 ?z11 ?z12 ?z13 ?z14 ?z15 ?v0 ?v1 ?v2 ?v3 ?v4 ?v5 ?v6)
    (case a0 => k_is); (case l0 => k_is); (case c0 => k_is); (case k0 => k_is); (case a1 => k_is); (case l1 => k_is); (case c1 => k_is); (case k1 => k_is); (case a2 => k_is); (case l2 => k_is)
    (case c2 => k_is); (case k2 => k_is); (case a3 => k_is); (case l3 => k_is); (case c3 => k_is); (case k3 => k_is); (case a4 => k_is); (case l4 => k_is); (case c4 => k_is); (case k4 => k_is)
    (case a5 => k_is); (case l5 => k_is); (case c5 => k_is); (case k5 => k_is); (case a6 => k_is); (case l6 => k_is); (case c6 => k_is); (case k6 => k_is); (case a7 => k_is); (case l7 => k_is)
    (case c7 => k_is); (case k7 => k_is); (case a8 => k_is); (case l8 => k_is); (case c8 => k_is); (case k8 => k_is); (case a9 => k_is); (case l9 => k_is); (case c9 => k_is); (case k9 => k_is)
    (case a10 => k_is); (case l10 => k_is); (case c10 => k_is); (case k10 => k_is); (case a11 => k_is); (case l11 => k_is); (case c11 => k_is); (case k11 => k_is); (case a12 => k_is)
    (case l12 => k_is); (case c12 => k_is); (case k12 => k_is); (case a13 => k_is); (case l13 => k_is); (case c13 => k_is); (case k13 => k_is); (case a14 => k_is); (case l14 => k_is)
    (case c14 => k_is); (case k14 => k_is); (case a15 => k_is); (case l15 => k_is); (case c15 => k_is); (case k15 => k_is); (case a16 => k_is); (case l16 => k_is); (case c16 => k_is)
    (case k16 => k_is); (case a17 => k_is); (case l17 => k_is); (case c17 => k_is); (case k17 => k_is); (case a18 => k_is); (case l18 => k_is); (case c18 => k_is); (case k18 => k_is)
    (case a19 => k_is); (case l19 => k_is); (case c19 => k_is); (case k19 => k_is); (case a20 => k_is); (case l20 => k_is); (case c20 => k_is); (case k20 => k_is); (case a21 => k_is)
    (case l21 => k_is); (case c21 => k_is); (case k21 => k_is); (case a22 => k_is); (case l22 => k_is); (case c22 => k_is); (case k22 => k_is); (case a23 => k_is); (case l23 => k_is)
    (case c23 => k_is); (case k23 => k_is); (case a24 => k_is); (case l24 => k_is); (case c24 => k_is); (case k24 => k_is); (case a25 => k_is); (case l25 => k_is); (case c25 => k_is)
    (case k25 => k_is); (case a26 => k_is); (case l26 => k_is); (case c26 => k_is); (case k26 => k_is); (case a27 => k_is); (case l27 => k_is); (case c27 => k_is); (case k27 => k_is)
    (case a28 => k_is); (case l28 => k_is); (case c28 => k_is); (case k28 => k_is); (case a29 => k_is); (case l29 => k_is); (case c29 => k_is); (case k29 => k_is); (case a30 => k_is)
    (case l30 => k_is); (case c30 => k_is); (case k30 => k_is); (case a31 => k_is); (case l31 => k_is); (case c31 => k_is); (case k31 => k_is); (case a32 => k_is); (case l32 => k_is)
    (case c32 => k_is); (case k32 => k_is); (case a33 => k_is); (case l33 => k_is); (case c33 => k_is); (case k33 => k_is); (case a34 => k_is); (case l34 => k_is); (case c34 => k_is)
    (case k34 => k_is); (case a35 => k_is); (case l35 => k_is); (case c35 => k_is); (case k35 => k_is); (case xa0 => k_is); (case xe0 => k_exc); (case xk0 => k_is); (case xs0 => k_is)
    (case xt0 => k_is); (case xc0 => k_is); (case xa1 => k_is); (case xe1 => k_exc); (case xk1 => k_is); (case xs1 => k_is); (case xt1 => k_is); (case xc1 => k_is); (case xa2 => k_is)
    (case xe2 => k_exc); (case xk2 => k_is); (case xs2 => k_is); (case xt2 => k_is); (case xc2 => k_is); (case xa3 => k_is); (case xe3 => k_exc); (case xk3 => k_is); (case xs3 => k_is)
    (case xt3 => k_is); (case xc3 => k_is); (case xa4 => k_is); (case xe4 => k_exc); (case xk4 => k_is); (case xs4 => k_is); (case xt4 => k_is); (case xc4 => k_is); (case e1_1 => k_is)
    (case e1_2 => k_is); (case e1_3 => k_is); (case e1_4 => k_is); (case e2_1 => k_is); (case e2_2 => k_is); (case e2_3 => k_is); (case e2_4 => k_is); (case e3_1 => k_is); (case e3_2 => k_is)
    (case e3_3 => k_is); (case e3_4 => k_is); (case e4_1 => k_is); (case e4_2 => k_is); (case e4_3 => k_is); (case e4_4 => k_is); (case z0 => k_is); (case z1 => k_is); (case z2 => k_is)
    (case z3 => k_is); (case z4 => k_is); (case z5 => k_is); (case z6 => k_is); (case z7 => k_is); (case z8 => k_is); (case z9 => k_is); (case z10 => k_is); (case z11 => k_is); (case z12 => k_is)
    (case z13 => k_is); (case z14 => k_is); (case z15 => k_is); (case v0 => k_is); (case v1 => k_is); (case v2 => k_is); (case v3 => k_is); (case v4 => k_is); (case v5 => k_is); (case v6 => k_is)
