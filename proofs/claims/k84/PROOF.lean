import PyProof.Rows.All
import Wide.All
import OpenK.AllK
import Wide.FinOn
import HandS.ForMost
import HandS.ForExc
import HandS.TryMany
import HandS.DictComp
import HandS.IsInst
import HandS.SetKeys
import HandS.Strs
import HandS.Zip
import HandS.TupMul
import HandS.TupAny
import HandS.TupLe
import HandS.TupSets
import HandS.Wide
import HandS.WideBits
import HandS.SortInts
import HandS.Conv
import HandS.Style
import HandS.Evl
import HandS.Deep
import HandS.DictTup
import HandS.SetFor
import HandS.TupLen
import PyProof.DictMoreH
import HandS.Zip0
import KE.KDictZip
import HandS.Iter
import PySem.Challenge.RW_costslimited_k84_whole_machines_below_on
import KE.SortData
import PyProof.ListNew
import HandS.List
import HandS.ExcOwn
set_option Elab.async false
set_option linter.all false
set_option maxRecDepth 100000
set_option maxHeartbeats 2000000
/-! Readings over data: what an expression's reading gives, as data (PyData), all that was tracked standing as before. -/
namespace KD
open PySem PySem.Spec PyProof.Rows L2

/-- tuples stay; lists stay lists -/
structure Kp (H H' : Hp) : Prop where
  tup : ∀ a xs, Rd H a (.tup xs) → Rd H' a (.tup xs)
  lst : ∀ a xs, Rd H a (.lst xs) → ∃ ys, Rd H' a (.lst ys)
theorem Kp.refl (H : Hp) : Kp H H := ⟨fun _ _ h => h, fun _ xs h => ⟨xs, h⟩⟩
theorem Kp.trans {H H1 H2 : Hp} (a : Kp H H1) (b : Kp H1 H2) : Kp H H2 := ⟨fun x xs h => b.tup x xs (a.tup x xs h), fun x xs h => let ⟨ys, k⟩ := a.lst x xs h; b.lst x ys k⟩
theorem rd_same {H H' : Hp} {a : Addr} {u : HO} (e : Same H H') (h : Rd H a u) : Rd H' a u := by
  rcases h with h | ⟨o, h⟩
  · exact Or.inl (e a _ h)
  · exact Or.inr ⟨o, e a _ h⟩
theorem Kp.of {H H' : Hp} (e : Same H H') : Kp H H' := ⟨fun _ _ h => rd_same e h, fun _ xs h => ⟨xs, rd_same e h⟩⟩
/-- what may be written is written: a list stays a list -/
theorem Kp.store {H : Hp} {p : Addr} {o : HO} (h : ∀ u, H p = some u → (∀ xs, u ≠ .tup xs) ∧ (∀ ob z, u ≠ .frz ob z) ∧ ((∃ xs, u = .lst xs) → ∃ xs, o = .lst xs)) : Kp H (upd H p o) := by
  refine ⟨fun a xs r => ?_, fun a xs r => ?_⟩
  · by_cases e : a = p
    · subst e
      rcases r with r | ⟨ob, r⟩
      · exact absurd rfl ((h _ r).1 xs)
      · exact absurd rfl ((h _ r).2.1 ob _)
    · unfold Rd
      rw [upd_ne e]
      exact r
  · by_cases e : a = p
    · subst e
      rcases r with r | ⟨ob, r⟩
      · obtain ⟨ys, k⟩ := (h _ r).2.2 ⟨xs, rfl⟩
        exact ⟨ys, .inl (by rw [upd_same, k])⟩
      · exact absurd rfl ((h _ r).2.1 ob _)
    · refine ⟨xs, ?_⟩
      unfold Rd
      rw [upd_ne e]
      exact r
theorem Kp.updL {H : Hp} {p : Addr} {xs ys : List V} (h : H p = some (.lst xs)) : Kp H (upd H p (.lst ys)) := .store fun u e => by
  rw [h] at e
  cases e
  exact ⟨(fun _ z => nomatch z), (fun _ _ z => nomatch z), fun _ => ⟨_, rfl⟩⟩
theorem Kp.updK {H : Hp} {p : Addr} {xs : List (Key × V)} {o : HO} (h : H p = some (.dK xs)) : Kp H (upd H p o) := .store fun u e => by
  rw [h] at e
  cases e
  exact ⟨(fun _ z => nomatch z), (fun _ _ z => nomatch z), fun z => by obtain ⟨_, q⟩ := z; cases q⟩
theorem sqT_kp {K : PySem.W.Frag} {H H' : Hp} {a : Addr} {xs : List V} (e : Kp H H') (h : SqT K H a xs) : SqT K H' a xs := by
  rcases h with h | h
  · exact Or.inl (e.tup _ _ h)
  · exact Or.inr h
theorem sqL_kp {K : PySem.W.Frag} {H H' : Hp} {a : Addr} {xs : List V} (e : Kp H H') (h : SqL K H a xs) : ∃ ys, SqL K H' a ys := by
  rcases h with h | h
  · obtain ⟨ys, k⟩ := e.lst _ _ h
    exact ⟨ys, Or.inl k⟩
  · exact ⟨xs, Or.inr h⟩
theorem sqL_same {K : PySem.W.Frag} {H H' : Hp} {a : Addr} {xs : List V} (e : Same H H') (h : SqL K H a xs) : SqL K H' a xs := by
  rcases h with h | h
  · exact Or.inl (rd_same e h)
  · exact Or.inr h

/-! ### data: none, bools, ints, texts, tuples of data; of a list only that it is one -/
mutual
inductive Dq (K : PySem.W.Frag) (H : Hp) : V → PyData → Prop
  | non : Dq K H .non .none
  | bl (b : Bool) : Dq K H (.bl b) (.bool b)
  | int (i : Int) : Dq K H (.int i) (.int i)
  | str (x : Str) : Dq K H (.str x) (.str x)
  | lst {a : Addr} {xs : List V} : SqL K H a xs → Dq K H (.ref a) (.list [])
  | tup {a : Addr} {xs : List V} {ds : List PyData} : SqT K H a xs → DqAll K H xs ds → Dq K H (.ref a) (.tuple ds)
inductive DqAll (K : PySem.W.Frag) (H : Hp) : List V → List PyData → Prop
  | nil : DqAll K H [] []
  | cons {v : V} {vs : List V} {d : PyData} {ds : List PyData} : Dq K H v d → DqAll K H vs ds → DqAll K H (v :: vs) (d :: ds)
end
mutual
theorem dq_mono {K : PySem.W.Frag} {H H' : Hp} (e : Kp H H') : ∀ (d : PyData) (v : V), Dq K H v d → Dq K H' v d
  | .none, _, h => by cases h; exact .non
  | .bool b, _, h => by cases h; exact .bl b
  | .int i, _, h => by cases h; exact .int i
  | .str x, _, h => by cases h; exact .str x
  | .list ds, _, h => by
    cases h with
    | lst hs => exact let ⟨_, k⟩ := sqL_kp e hs; .lst k
  | .tuple ds, _, h => by
    cases h with
    | tup hs ha => exact .tup (sqT_kp e hs) (dqAll_mono e ds _ ha)
  | .dict _, _, h => by cases h
theorem dqAll_mono {K : PySem.W.Frag} {H H' : Hp} (e : Kp H H') : ∀ (ds : List PyData) (vs : List V), DqAll K H vs ds → DqAll K H' vs ds
  | [], _, h => by cases h; exact .nil
  | d :: ds, _, h => by
    cases h with
    | cons h1 h2 => exact .cons (dq_mono e d _ h1) (dqAll_mono e ds _ h2)
end
mutual
def flatD : PyData → Bool
  | .list _ => false
  | .dict _ => false
  | .tuple ds => flatAll ds
  | _ => true
def flatAll : List PyData → Bool
  | [] => true
  | d :: ds => flatD d && flatAll ds
end
mutual
theorem dq_dp {K : PySem.W.Frag} {H : Hp} : ∀ (d : PyData) (v : V), flatD d = true → Dq K H v d → Dp K H v d
  | .none, _, _, h => by cases h; exact .non
  | .bool b, _, _, h => by cases h; exact .bl b
  | .int i, _, _, h => by cases h; exact .int i
  | .str x, _, _, h => by cases h; exact .str x
  | .list ds, _, f, h => by simp [flatD] at f
  | .tuple ds, _, f, h => by
    cases h with
    | tup hs ha => exact .tup hs (dqAll_dp ds _ (by simpa [flatD] using f) ha)
  | .dict _, _, _, h => by cases h
theorem dqAll_dp {K : PySem.W.Frag} {H : Hp} : ∀ (ds : List PyData) (vs : List V), flatAll ds = true → DqAll K H vs ds → DpAll K H vs ds
  | [], _, _, h => by cases h; exact .nil
  | d :: ds, _, f, h => by
    cases h with
    | cons h1 h2 =>
      simp only [flatAll, Bool.and_eq_true] at f
      exact .cons (dq_dp d _ f.1 h1) (dqAll_dp ds _ f.2 h2)
end
section
variable {K : PySem.W.Frag} {H H' : Hp}
theorem Dq.mono {v : V} {d : PyData} (h : Dq K H v d) (e : Same H H') : Dq K H' v d := dq_mono (.of e) d v h
theorem DqAll.mono {vs : List V} {ds : List PyData} (h : DqAll K H vs ds) (e : Same H H') : DqAll K H' vs ds := dqAll_mono (.of e) ds vs h
theorem Dq.kp {v : V} {d : PyData} (h : Dq K H v d) (e : Kp H H') : Dq K H' v d := dq_mono e d v h
theorem DqAll.kp {vs : List V} {ds : List PyData} (h : DqAll K H vs ds) (e : Kp H H') : DqAll K H' vs ds := dqAll_mono e ds vs h
theorem DqAll.length : ∀ {vs : List V} {ds : List PyData}, DqAll K H vs ds → vs.length = ds.length
  | _, _, .nil => rfl
  | _, _, .cons _ t => congrArg (· + 1) (DqAll.length t)
theorem DqAll.get : ∀ {vs : List V} {ds : List PyData} {i : Nat} {d : PyData}, DqAll K H vs ds → ds[i]? = some d → ∃ v, vs[i]? = some v ∧ Dq K H v d
  | _, _, _, _, .nil, e => by simp at e
  | _, _, 0, _, .cons h _, e => by
    simp at e; subst e
    exact ⟨_, rfl, h⟩
  | _, _, i + 1, _, .cons _ t, e => by
    obtain ⟨v, h1, h2⟩ := DqAll.get (i := i) t (by simpa using e)
    exact ⟨v, by simpa using h1, h2⟩
theorem DqAll.get' : ∀ {vs : List V} {ds : List PyData} {i : Nat} {v : V}, DqAll K H vs ds → vs[i]? = some v → ∃ d, ds[i]? = some d ∧ Dq K H v d
  | _, _, _, _, .nil, e => by simp at e
  | _, _, 0, _, .cons h _, e => by
    simp at e; subst e
    exact ⟨_, rfl, h⟩
  | _, _, i + 1, _, .cons _ t, e => by
    obtain ⟨v, h1, h2⟩ := DqAll.get' (i := i) t (by simpa using e)
    exact ⟨v, by simpa using h1, h2⟩
theorem DqAll.append : ∀ {vs ws : List V} {ds es : List PyData}, DqAll K H vs ds → DqAll K H ws es → DqAll K H (vs ++ ws) (ds ++ es)
  | _, _, _, _, .nil, t => t
  | _, _, _, _, .cons h t, s => .cons h (DqAll.append t s)
theorem DqAll.one {v : V} {d : PyData} (h : Dq K H v d) : DqAll K H [v] [d] := .cons h .nil
theorem DqAll.snoc {v : V} {d : PyData} {vs : List V} {ds : List PyData} (t : DqAll K H vs ds) (h : Dq K H v d) : DqAll K H (vs ++ [v]) (ds ++ [d]) := t.append (.one h)
theorem DqAll.set : ∀ {vs : List V} {ds : List PyData} (i : Nat) {v : V} {d : PyData}, DqAll K H vs ds → Dq K H v d → DqAll K H (vs.set i v) (ds.set i d)
  | _, _, _, _, _, .nil, _ => .nil
  | _, _, 0, _, _, .cons _ t, q => .cons q t
  | _, _, i + 1, _, _, .cons h t, q => .cons h (DqAll.set i t q)
theorem DqAll.ints : ∀ (ns : List Int), DqAll K H (ns.map V.int) (ns.map PyData.int)
  | [] => .nil
  | n :: ns => .cons (.int n) (DqAll.ints ns)
theorem DqAll.of_ints : ∀ {vs : List V} (ns : List Int), DqAll K H vs (ns.map PyData.int) → vs = ns.map V.int
  | _, [], h => by cases h; rfl
  | _, n :: ns, h => by
    cases h with
    | cons h1 h2 => cases h1; rw [DqAll.of_ints ns h2]; rfl
theorem DqAll.of_bls : ∀ {vs : List V} (bs : List Bool), DqAll K H vs (bs.map PyData.bool) → vs = bs.map V.bl
  | _, [], h => by cases h; rfl
  | _, n :: ns, h => by
    cases h with
    | cons h1 h2 => cases h1; rw [DqAll.of_bls ns h2]; rfl
theorem DqAll.of_strs : ∀ {vs : List V} (bs : List Str), DqAll K H vs (bs.map PyData.str) → vs = bs.map V.str
  | _, [], h => by cases h; rfl
  | _, n :: ns, h => by
    cases h with
    | cons h1 h2 => cases h1; rw [DqAll.of_strs ns h2]; rfl
theorem DqAll.single {vs : List V} {a : PyData} (h : DqAll K H vs [a]) : ∃ x, vs = [x] ∧ Dq K H x a := by
  cases h with
  | cons h0 h => cases h; exact ⟨_, rfl, h0⟩
theorem DqAll.two {vs : List V} {a b : PyData} (h : DqAll K H vs [a, b]) : ∃ x y, vs = [x, y] ∧ Dq K H x a ∧ Dq K H y b := by
  cases h with
  | cons h0 h => obtain ⟨y, rfl, h1⟩ := h.single; exact ⟨_, _, rfl, h0, h1⟩
theorem DqAll.three {vs : List V} {a b c : PyData} (h : DqAll K H vs [a, b, c]) : ∃ x y z, vs = [x, y, z] ∧ Dq K H x a ∧ Dq K H y b ∧ Dq K H z c := by
  cases h with
  | cons h0 h => obtain ⟨y, z, rfl, h1, h2⟩ := h.two; exact ⟨_, _, _, rfl, h0, h1, h2⟩
theorem DqAll.four {vs : List V} {a b c d : PyData} (h : DqAll K H vs [a, b, c, d]) : ∃ x y z u, vs = [x, y, z, u] ∧ Dq K H x a ∧ Dq K H y b ∧ Dq K H z c ∧ Dq K H u d := by
  cases h with
  | cons h0 h => obtain ⟨y, z, u, rfl, h1, h2, h3⟩ := h.three; exact ⟨_, _, _, _, rfl, h0, h1, h2, h3⟩
theorem Dq.tupE {v : V} {ds : List PyData} (h : Dq K H v (.tuple ds)) : ∃ a xs, v = .ref a ∧ SqT K H a xs ∧ DqAll K H xs ds := by
  cases h with
  | tup h1 h2 => exact ⟨_, _, rfl, h1, h2⟩
theorem Dq.intE {v : V} {i : Int} (h : Dq K H v (.int i)) : v = .int i := by cases h; rfl
theorem Dq.blE {v : V} {i : Bool} (h : Dq K H v (.bool i)) : v = .bl i := by cases h; rfl
theorem Dq.strE {v : V} {i : Str} (h : Dq K H v (.str i)) : v = .str i := by cases h; rfl
theorem Dq.nonE {v : V} (h : Dq K H v .none) : v = .non := by cases h; rfl
theorem same_new {p : Addr} {o : HO} (h : H p = none) : Same H (upd H p o) := fun b x e => by
  rw [upd_ne (ne_of_none e h)]
  exact e
/-- an object that H does not know may change -/
theorem same_mut {p : Addr} {o : HO} (e : Same H H') (h : H p = none) : Same H (upd H' p o) := fun a u ha => by
  rw [upd_ne (ne_of_none ha h)]
  exact e a u ha

/-! ### expressions -/
def EvP (K : PySem.W.Frag) (te : TE) (σ : L2.St) (H : Hp) (P : PyData → Prop) : Prop :=
  ∀ H1, Same H H1 → ∀ Q : VK, (∀ v H2 r, Same H1 H2 → Dq K H2 v r → P r → Q v H2) → te σ H1 Q
abbrev EvD (K : PySem.W.Frag) (te : TE) (σ : L2.St) (H : Hp) (d : PyData) : Prop := EvP K te σ H (fun r => r = d)
def EvB (tt : TT) (σ : L2.St) (H : Hp) (b : Bool) : Prop := ∀ H1, Same H H1 → ∀ Q : Bool → Hp → Prop, (∀ H2, Same H1 H2 → Q b H2) → tt σ H1 Q
def EvA (K : PySem.W.Frag) (ta : TA) (σ : L2.St) (H : Hp) (ds : List PyData) : Prop :=
  ∀ H1, Same H H1 → ∀ Q : List V → Hp → Prop, (∀ vs H2, Same H1 H2 → DqAll K H2 vs ds → Q vs H2) → ta σ H1 Q

variable {σ : L2.St} {ta tb tc te : TE} {tt tu : TT} {d e f : PyData} {x y z v : V}
theorem EvP.mono {P : PyData → Prop} (e : Same H H') (h : EvP K te σ H P) : EvP K te σ H' P := fun H1 a Q q => h H1 (e.trans a) Q q
theorem EvB.mono {b : Bool} (e : Same H H') (h : EvB tt σ H b) : EvB tt σ H' b := fun H1 a Q q => h H1 (e.trans a) Q q
theorem EvP.use {P : PyData → Prop} (h : EvP K te σ H P) (Q : VK) (q : ∀ v H2 r, Same H H2 → Dq K H2 v r → P r → Q v H2) : te σ H Q := h H (Same.refl H) Q q
theorem EvD.use (h : EvD K te σ H d) (Q : VK) (q : ∀ v H2, Same H H2 → Dq K H2 v d → Q v H2) : te σ H Q := h H (Same.refl H) Q fun v H2 r s p e => q v H2 s (e ▸ p)
theorem EvB.use {b : Bool} (h : EvB tt σ H b) (Q : Bool → Hp → Prop) (q : ∀ H2, Same H H2 → Q b H2) : tt σ H Q := h H (Same.refl H) Q q
theorem EvD.run {H1 : Hp} (h : EvD K te σ H d) (a : Same H H1) {Q : VK} (q : ∀ v H2, Same H1 H2 → Dq K H2 v d → Q v H2) : te σ H1 Q := h H1 a Q fun v H2 r s p e => q v H2 s (e ▸ p)
theorem evd_is (h : EvD K te σ H d) (e : d = f) : EvD K te σ H f := e ▸ h
theorem evb_is {a b : Bool} (h : EvB tt σ H a) (e : a = b) : EvB tt σ H b := e ▸ h

theorem evd_v (i : Nat) (h : σ[i]? = some (some v)) (hd : Dq K H v d) : EvD K (tVar i) σ H d := fun H1 s Q q => ⟨v, h, q v H1 d (Same.refl H1) (hd.mono s) rfl⟩
theorem evd_c (hd : ∀ H, Dq K H v d) : EvD K (tC v) σ H d := fun H1 s Q q => q v H1 d (Same.refl H1) (hd H1) rfl
theorem evd_int {i : Int} : EvD K (tC (.int i)) σ H (.int i) := evd_c fun _ => .int i
theorem evd_bl {i : Bool} : EvD K (tC (.bl i)) σ H (.bool i) := evd_c fun _ => .bl i
theorem evd_str {i : Str} : EvD K (tC (.str i)) σ H (.str i) := evd_c fun _ => .str i
theorem evd_non : EvD K (tC .non) σ H .none := evd_c fun _ => .non

/-- a two-place operation on data -/
def RD (K : PySem.W.Frag) (r : R2) (d e : PyData) (H : Hp) (f : PyData) : Prop := ∀ H1, Same H H1 → ∀ x y, Dq K H1 x d → Dq K H1 y e → ∀ Q : VK, (∀ v H2, Same H1 H2 → Dq K H2 v f → Q v H2) → r x y H1 Q
theorem evd_op {r : R2} (ha : EvD K ta σ H d) (hb : EvD K tb σ H e) (hr : RD K r d e H f) : EvD K (tOp r ta tb) σ H f := fun H1 s Q q =>
  ha.run s fun x H2 s2 p2 => hb.run (s.trans s2) fun y H3 s3 p3 => hr H3 ((s.trans s2).trans s3) x y (p2.mono s3) p3 Q fun v H4 s4 p4 => q v H4 f ((s2.trans s3).trans s4) p4 rfl
theorem rd_I0 {g : Int → Int → V} {i j : Int} (hf : ∀ H, Dq K H (g i j) f) : RD K (rI0 g) (.int i) (.int j) H f := fun H1 s x y p q Q k => by
  cases p; cases q
  exact ⟨i, j, rfl, rfl, k _ H1 (Same.refl H1) (hf H1)⟩
theorem rd_I {C : Int → Int → Prop} {g : Int → Int → V} {i j : Int} (hc : C i j) (hf : ∀ H, Dq K H (g i j) f) : RD K (rI C g) (.int i) (.int j) H f := fun H1 s x y p q Q k => by
  cases p; cases q
  exact ⟨i, j, rfl, rfl, hc, k _ H1 (Same.refl H1) (hf H1)⟩
/-- + - of ints -/
theorem evd_ar {g : Int → Int → Int} {i j : Int} (ha : EvD K ta σ H (.int i)) (hb : EvD K tb σ H (.int j)) : EvD K (tOp (rI0 fun i j => .int (g i j)) ta tb) σ H (.int (g i j)) := evd_op ha hb (rd_I0 fun _ => .int _)
/-- < <= > >= of ints -/
theorem evd_lt {g : Int → Int → Bool} {i j : Int} (ha : EvD K ta σ H (.int i)) (hb : EvD K tb σ H (.int j)) : EvD K (tOp (rI0 fun i j => .bl (g i j)) ta tb) σ H (.bool (g i j)) := evd_op ha hb (rd_I0 fun _ => .bl _)
/-- .. under a condition -/
theorem evd_arC {C : Int → Int → Prop} {g : Int → Int → Int} {i j : Int} (ha : EvD K ta σ H (.int i)) (hb : EvD K tb σ H (.int j)) (hc : C i j) : EvD K (tOp (rI C fun i j => .int (g i j)) ta tb) σ H (.int (g i j)) := evd_op ha hb (rd_I hc fun _ => .int _)

/-- scalars -/
def scalD : PyData → Bool
  | .none => true | .int _ => true | .str _ => true | .bool _ => true
  | _ => false
def eqS : PyData → PyData → Option Bool
  | .none, .none => some true
  | .none, .int _ => some false | .int _, .none => some false | .none, .bool _ => some false | .bool _, .none => some false | .none, .str _ => some false | .str _, .none => some false
  | .int i, .int j => some (decide (i = j)) | .bool i, .bool j => some (decide (i = j)) | .str i, .str j => some (decide (i = j))
  | .int _, .str _ => some false | .str _, .int _ => some false | .bool _, .str _ => some false | .str _, .bool _ => some false
  | _, _ => none
theorem eqS_ok {b : Bool} (h : eqS d e = some b) (hx : Dq K H x d) (hy : Dq K H y e) : scal x y = true ∧ decide (x = y) = b := by
  cases hx <;> cases hy <;> simp only [eqS, reduceCtorEq, Option.some.injEq] at h <;> subst h <;> simp [scal]
theorem evd_eq {b : Bool} (ha : EvD K ta σ H d) (hb : EvD K tb σ H e) (h : eqS d e = some b) : EvD K (tOp rEq ta tb) σ H (.bool b) := evd_op ha hb fun H1 s x y p q Q k => by
  obtain ⟨h1, h2⟩ := eqS_ok h p q
  refine ⟨h1, ?_⟩
  rw [h2]
  exact k _ H1 (Same.refl H1) (.bl b)
theorem evd_ne {b : Bool} (ha : EvD K ta σ H d) (hb : EvD K tb σ H e) (h : eqS d e = some b) : EvD K (tOp rNe ta tb) σ H (.bool (!b)) := evd_op ha hb fun H1 s x y p q Q k => by
  obtain ⟨h1, h2⟩ := eqS_ok h p q
  refine ⟨h1, ?_⟩
  rw [h2]
  exact k _ H1 (Same.refl H1) (.bl (!b))
theorem evd_eqD (ha : EvD K ta σ H d) (hb : EvD K tb σ H e) (f1 : flatD d = true) (f2 : flatD e = true) (h1 : SeqAt.shaped d = true) (h2 : SeqAt.shaped e = true) : EvD K (tOp (rEqD K) ta tb) σ H (.bool (PyData.eqv d e)) := evd_op ha hb fun H1 s x y p q Q k =>
  ⟨d, e, dq_dp d _ f1 p, dq_dp e _ f2 q, h1, h2, k _ H1 (Same.refl H1) (.bl _)⟩
theorem evd_neD (ha : EvD K ta σ H d) (hb : EvD K tb σ H e) (f1 : flatD d = true) (f2 : flatD e = true) (h1 : SeqAt.shaped d = true) (h2 : SeqAt.shaped e = true) : EvD K (tOp (rNeD K) ta tb) σ H (.bool (!PyData.eqv d e)) := evd_op ha hb fun H1 s x y p q Q k =>
  ⟨d, e, dq_dp d _ f1 p, dq_dp e _ f2 q, h1, h2, k _ H1 (Same.refl H1) (.bl _)⟩
def isNone : PyData → Bool
  | .none => true
  | _ => false
def rIsN : R2 := fun x y H Q => y = .non ∧ Q (.bl (decide (x = .non))) H
def rNotN : R2 := fun x y H Q => y = .non ∧ Q (.bl (!decide (x = .non))) H
theorem dq_isNone {v : V} {d : PyData} (h : Dq K H v d) : decide (v = .non) = isNone d := by
  cases h <;> first | rfl | exact decide_eq_false (fun e => nomatch e)
theorem evd_isN (ha : EvD K ta σ H d) : EvD K (tOp rIsN ta (tC .non)) σ H (.bool (isNone d)) := evd_op ha evd_non fun H1 s x y p q Q k => by
  cases q
  refine ⟨rfl, ?_⟩
  rw [dq_isNone p]
  exact k _ H1 (Same.refl H1) (.bl _)
theorem evd_notN (ha : EvD K ta σ H d) : EvD K (tOp rNotN ta (tC .non)) σ H (.bool (!isNone d)) := evd_op ha evd_non fun H1 s x y p q Q k => by
  cases q
  refine ⟨rfl, ?_⟩
  rw [dq_isNone p]
  exact k _ H1 (Same.refl H1) (.bl _)
def rIsBo : R2 := fun x y H Q => ∃ a b, x = .bl a ∧ y = .bl b ∧ Q (.bl (decide (a = b))) H
def rNotBo : R2 := fun x y H Q => ∃ a b, x = .bl a ∧ y = .bl b ∧ Q (.bl (!decide (a = b))) H
theorem evd_isB {a b : Bool} (ha : EvD K ta σ H (.bool a)) (hb : EvD K tb σ H (.bool b)) : EvD K (tOp rIsBo ta tb) σ H (.bool (decide (a = b))) := evd_op ha hb fun H1 s x y p q Q k => by
  cases p; cases q
  exact ⟨a, b, rfl, rfl, k _ H1 (Same.refl H1) (.bl _)⟩
theorem evd_notB {a b : Bool} (ha : EvD K ta σ H (.bool a)) (hb : EvD K tb σ H (.bool b)) : EvD K (tOp rNotBo ta tb) σ H (.bool (!decide (a = b))) := evd_op ha hb fun H1 s x y p q Q k => by
  cases p; cases q
  exact ⟨a, b, rfl, rfl, k _ H1 (Same.refl H1) (.bl _)⟩
theorem evd_neg {i : Int} (ha : EvD K ta σ H (.int i)) : EvD K (tUn (rU fun i => .int (-i)) ta) σ H (.int (-i)) := fun H1 s Q q => ha.run s fun x H2 s2 p2 => by
  cases p2
  exact ⟨i, rfl, q _ H2 _ s2 (.int _) rfl⟩

/-! ### tests -/
theorem evb_test {b : Bool} (h : EvD K te σ H (.bool b)) : EvB (tTest te) σ H b := fun H1 s Q q => h.run s fun v H2 s2 p => by
  cases p
  exact ⟨b, rfl, q H2 s2⟩
theorem evb_B {b : Bool} (h : EvD K te σ H (.bool b)) : EvB (tB te) σ H b := fun H1 s Q q => h.run s fun v H2 s2 p => by
  cases p
  exact ⟨b, rfl, q H2 s2⟩
theorem evb_and {a b : Bool} (h1 : EvB tt σ H a) (h2 : a = true → EvB tu σ H b) : EvB (tAnd tt tu) σ H (a && b) := fun H1 s Q q => h1 H1 s _ fun H2 s2 => by
  cases a with
  | true => exact iteT (h2 rfl H2 (s.trans s2) Q fun H3 s3 => q H3 (s2.trans s3))
  | false => exact iteF (q H2 s2)
theorem evb_or {a b : Bool} (h1 : EvB tt σ H a) (h2 : a = false → EvB tu σ H b) : EvB (tOr tt tu) σ H (a || b) := fun H1 s Q q => h1 H1 s _ fun H2 s2 => by
  cases a with
  | true => exact iteT (q H2 s2)
  | false => exact iteF (h2 rfl H2 (s.trans s2) Q fun H3 s3 => q H3 (s2.trans s3))
theorem evb_not {a : Bool} (h1 : EvB tt σ H a) : EvB (tNot tt) σ H (!a) := fun H1 s Q q => h1 H1 s _ fun H2 s2 => q H2 s2
theorem evb_yes : EvB tYes σ H true := fun H1 s Q q => q H1 (Same.refl H1)
theorem evd_and {a b : Bool} (h1 : EvD K ta σ H (.bool a)) (h2 : a = true → EvD K tb σ H (.bool b)) : EvD K (tAndV ta tb) σ H (.bool (a && b)) := fun H1 s Q q => h1.run s fun v H2 s2 p => by
  cases p
  refine ⟨a, rfl, ?_⟩
  cases a with
  | true => exact iteT ((h2 rfl).run (s.trans s2) fun v H3 s3 p3 => q v H3 _ (s2.trans s3) p3 rfl)
  | false => exact iteF (q _ H2 _ s2 (.bl false) rfl)
theorem evd_or {a b : Bool} (h1 : EvD K ta σ H (.bool a)) (h2 : a = false → EvD K tb σ H (.bool b)) : EvD K (tOrV ta tb) σ H (.bool (a || b)) := fun H1 s Q q => h1.run s fun v H2 s2 p => by
  cases p
  refine ⟨a, rfl, ?_⟩
  cases a with
  | true => exact iteT (q _ H2 _ s2 (.bl true) rfl)
  | false => exact iteF ((h2 rfl).run (s.trans s2) fun v H3 s3 p3 => q v H3 _ (s2.trans s3) p3 rfl)
theorem evd_not {a : Bool} (h1 : EvD K ta σ H (.bool a)) : EvD K (tNotV ta) σ H (.bool (!a)) := fun H1 s Q q => h1.run s fun v H2 s2 p => by
  cases p
  exact ⟨a, rfl, q _ H2 _ s2 (.bl _) rfl⟩
theorem evp_if {b : Bool} {P : PyData → Prop} (h : EvB tt σ H b) (h1 : b = true → EvP K ta σ H P) (h2 : b = false → EvP K tb σ H P) : EvP K (tIf tt ta tb) σ H P := fun H1 s Q q => h H1 s _ fun H2 s2 => by
  cases b with
  | true => exact iteT (h1 rfl H2 (s.trans s2) Q fun v H3 r s3 p3 e3 => q v H3 r (s2.trans s3) p3 e3)
  | false => exact iteF (h2 rfl H2 (s.trans s2) Q fun v H3 r s3 p3 e3 => q v H3 r (s2.trans s3) p3 e3)
/-- a < b < c -/
theorem evd_chain {r r' : R2} {a b : Bool} (ha : EvD K ta σ H d) (hb : EvD K tb σ H e) (hr : RD K r d e H (.bool a)) (hc : a = true → EvD K tc σ H f) (hr' : a = true → RD K r' e f H (.bool b)) :
    EvD K (tChain r r' ta tb tc) σ H (.bool (a && b)) := fun H1 s Q q =>
  ha.run s fun x H2 s2 p2 => hb.run (s.trans s2) fun y H3 s3 p3 => hr H3 ((s.trans s2).trans s3) x y (p2.mono s3) p3 _ fun v H4 s4 p4 => by
    cases p4
    refine ⟨a, rfl, ?_⟩
    have s14 := ((s.trans s2).trans s3).trans s4
    cases a with
    | true => exact iteT ((hc rfl).run s14 fun w H5 s5 p5 => (hr' rfl) H5 (s14.trans s5) y w ((p3.mono s4).mono s5) p5 Q fun v H6 s6 p6 => q v H6 _ ((((s2.trans s3).trans s4).trans s5).trans s6) p6 rfl)
    | false => exact iteF (q _ H4 _ ((s2.trans s3).trans s4) (.bl false) rfl)
theorem rd_lt {g : Int → Int → Bool} {i j : Int} : RD K (rI0 fun i j => .bl (g i j)) (.int i) (.int j) H (.bool (g i j)) := rd_I0 fun _ => .bl _

/-! ### arguments, displays -/
theorem eva_nil : EvA K tNil σ H [] := fun H1 s Q q => q [] H1 (Same.refl H1) .nil
theorem eva_cons {tr : TA} {ds : List PyData} (h : EvD K te σ H d) (hr : EvA K tr σ H ds) : EvA K (tCons te tr) σ H (d :: ds) := fun H1 s Q q =>
  h.run s fun v H2 s2 p2 => hr H2 (s.trans s2) _ fun vs H3 s3 p3 => q (v :: vs) H3 (s2.trans s3) (.cons (p2.mono s3) p3)
theorem evd_tup {ta : TA} {ds : List PyData} (h : EvA K ta σ H ds) (hl : ds.length ≤ 100000) : EvD K (tTup ta) σ H (.tuple ds) := fun H1 s Q q =>
  h H1 s _ fun vs H2 s2 p2 => ⟨by rw [p2.length]; exact Evl.sz_of hl, fun p hp => q _ _ _ (s2.trans (same_new hp)) (.tup (.inl (.inl upd_same)) (p2.mono (same_new hp))) rfl⟩
/-- a new list -/
def EvL (K : PySem.W.Frag) (te : TE) (σ : L2.St) (H : Hp) (ds : List PyData) : Prop :=
  ∀ H1, Same H H1 → ∀ Q : VK, (∀ p xs H2, H1 p = none → Same H1 H2 → H2 p = some (.lst xs) → DqAll K H2 xs ds → Q (.ref p) H2) → te σ H1 Q
theorem EvL.is {ds es : List PyData} (h : EvL K te σ H ds) (e : ds = es) : EvL K te σ H es := e ▸ h
theorem EvL.mono {ds : List PyData} (e : Same H H') (h : EvL K te σ H ds) : EvL K te σ H' ds := fun H1 a Q q => h H1 (e.trans a) Q q
theorem EvL.use {ds : List PyData} (h : EvL K te σ H ds) (Q : VK) (q : ∀ p xs H2, H p = none → Same H H2 → H2 p = some (.lst xs) → DqAll K H2 xs ds → Q (.ref p) H2) : te σ H Q := h H (Same.refl H) Q q
theorem same_free {p : Addr} (s : Same H H') (h : H' p = none) : H p = none := s.free h
theorem evl_lst {ta : TA} {ds : List PyData} (h : EvA K ta σ H ds) (hl : ds.length ≤ 100000) : EvL K (tLst ta) σ H ds := fun H1 s Q q =>
  h H1 s _ fun vs H2 s2 p2 => ⟨by rw [p2.length]; exact Evl.sz_of hl, fun p hp => q _ _ _ (s2.free hp) (s2.trans (same_new hp)) upd_same (p2.mono (same_new hp))⟩

/-! ### subscripts -/
theorem rd_ixT {ds : List PyData} {i : Nat} (h : ds[i]? = some f) : RD K (rIxT K) (.tuple ds) (.int i) H f := fun H1 s x y p q Q k => by
  cases q
  obtain ⟨a, xs, rfl, h1, h2⟩ := Dq.tupE p
  obtain ⟨v, hv, hp⟩ := h2.get h
  exact ⟨a, xs, i, v, rfl, rfl, h1, atI_nat hv, k v H1 (Same.refl H1) hp⟩
theorem evd_ixT {ds : List PyData} {i : Nat} (ha : EvD K ta σ H (.tuple ds)) (hb : EvD K tb σ H (.int i)) (h : ds[i]? = some f) : EvD K (tOp (rIxT K) ta tb) σ H f := evd_op ha hb (rd_ixT h)
/-- an item of a list that stands -/
theorem evd_ixLs {p : Addr} {xs : List V} {ds : List PyData} {i : Nat} (hs : SqL K H p xs) (hd : DqAll K H xs ds) (ha : ∀ H1, Same H H1 → ∀ Q : VK, (∀ H2, Same H1 H2 → Q (.ref p) H2) → ta σ H1 Q) (hb : EvD K tb σ H (.int i)) (h : ds[i]? = some f) :
    EvD K (tOp (rIxL K) ta tb) σ H f := fun H1 s Q q => ha H1 s _ fun H2 s2 => hb.run (s.trans s2) fun y H3 s3 p3 => by
  cases p3
  have s03 := (s.trans s2).trans s3
  obtain ⟨v, hv, hp⟩ := hd.get h
  exact ⟨p, xs, i, v, rfl, rfl, sqL_same s03 hs, atI_nat hv, q v H3 _ (s2.trans s3) (hp.mono s03) rfl⟩
theorem evr_v {p : Addr} (i : Nat) (h : σ[i]? = some (some (.ref p))) : ∀ H1, Same H H1 → ∀ Q : VK, (∀ H2, Same H1 H2 → Q (.ref p) H2) → tVar i σ H1 Q := fun H1 _ Q q => ⟨_, h, q H1 (Same.refl H1)⟩

/-! ### calls -/
/-- a promise over data: Pre of the arguments, Post of arguments and answer -/
def spD (K : PySem.W.Frag) (Pre : List PyData → Prop) (Post : List PyData → PyData → Prop) : Sp := fun vs H Q _ =>
  ∃ ds, DqAll K H vs ds ∧ Pre ds ∧ ∀ r v H', Same H H' → Dq K H' v r → Post ds r → Q v H'
/-- .. of a def that may raise: Err of the arguments and the class -/
def spE (K : PySem.W.Frag) (Pre : List PyData → Prop) (Post : List PyData → PyData → Prop) (Err : List PyData → Addr → Prop) : Sp := fun vs H Q E =>
  ∃ ds, DqAll K H vs ds ∧ Pre ds ∧ (∀ r v H', Same H H' → Dq K H' v r → Post ds r → Q v H') ∧ ∀ C H', Same H H' → Err ds C → E (.ref C) none H'
theorem evp_call {Pre : List PyData → Prop} {Post : List PyData → PyData → Prop} {E : XK} {ta : TA} {ds : List PyData} (h : EvA K ta σ H ds) (hp : Pre ds) : EvP K (tCall (spD K Pre Post) [] E ta) σ H (Post ds) := fun H1 s Q q =>
  h H1 s _ fun vs H2 s2 p2 => ⟨ds, by rw [List.append_nil]; exact p2, hp, fun r v H3 s3 p3 e3 => q v H3 r (s2.trans s3) p3 e3⟩
/-- .. where nothing is raised -/
theorem evp_callE {Pre : List PyData → Prop} {Post : List PyData → PyData → Prop} {Err : List PyData → Addr → Prop} {E : XK} {ta : TA} {ds : List PyData} (h : EvA K ta σ H ds) (hp : Pre ds) (he : ∀ C, ¬ Err ds C) :
    EvP K (tCall (spE K Pre Post Err) [] E ta) σ H (Post ds) := fun H1 s Q q =>
  h H1 s _ fun vs H2 s2 p2 => ⟨ds, by rw [List.append_nil]; exact p2, hp, fun r v H3 s3 p3 e3 => q v H3 r (s2.trans s3) p3 e3, fun C H3 _ x => (he C x).elim⟩
theorem EvP.imp {P P' : PyData → Prop} (h : EvP K te σ H P) (k : ∀ r, P r → P' r) : EvP K te σ H P' := fun H1 s Q q => h H1 s Q fun v H2 r s2 p2 e2 => q v H2 r s2 p2 (k r e2)

/-- a built-in's call on data -/
def CD (K : PySem.W.Frag) (r : List V → Hp → VK → Prop) (ds : List PyData) (H : Hp) (P : PyData → Prop) : Prop :=
  ∀ H1, Same H H1 → ∀ vs, DqAll K H1 vs ds → ∀ Q : VK, (∀ v H2 f, Same H1 H2 → Dq K H2 v f → P f → Q v H2) → r vs H1 Q
theorem evp_cb {r : List V → Hp → VK → Prop} {ta : TA} {ds : List PyData} {P : PyData → Prop} (h : EvA K ta σ H ds) (hr : CD K r ds H P) : EvP K (tCB r ta) σ H P := fun H1 s Q q =>
  h H1 s _ fun vs H2 s2 p2 => hr H2 (s.trans s2) vs p2 Q fun v H3 f s3 p3 e3 => q v H3 f (s2.trans s3) p3 e3
def rLenS (K : PySem.W.Frag) : List V → Hp → VK → Prop := fun xs H Q => ∃ p ys, xs = [.ref p] ∧ (SqL K H p ys ∨ SqT K H p ys) ∧ Q (.int ys.length) H
theorem cd_lenT {ds : List PyData} : CD K (rLenS K) [.tuple ds] H (· = .int ds.length) := fun H1 s vs p Q q => by
  cases p with
  | cons p1 p2 =>
    cases p2
    obtain ⟨a, xs, rfl, h1, h2⟩ := Dq.tupE p1
    exact ⟨a, xs, rfl, .inr h1, q _ H1 _ (Same.refl H1) (.int _) (by rw [h2.length])⟩
theorem evd_lenT {ds : List PyData} (h : EvD K te σ H (.tuple ds)) : EvD K (tCB (rLenS K) (tCons te tNil)) σ H (.int ds.length) := evp_cb (eva_cons h eva_nil) cd_lenT
theorem evd_lenL {ds : List PyData} (h : EvL K te σ H ds) : EvD K (tCB (rLenS K) (tCons te tNil)) σ H (.int ds.length) := fun H1 s Q q =>
  h H1 s _ fun p xs H2 hp s2 e2 d2 => ⟨p, xs, rfl, .inl (.inl (.inl e2)), q _ H2 _ s2 (.int _) (by rw [d2.length])⟩
theorem evd_lenLs {p : Addr} {xs : List V} (hs : SqL K H p xs) (ha : ∀ H1, Same H H1 → ∀ Q : VK, (∀ H2, Same H1 H2 → Q (.ref p) H2) → te σ H1 Q) : EvD K (tCB (rLenS K) (tCons te tNil)) σ H (.int xs.length) := fun H1 s Q q =>
  ha H1 s _ fun H2 s2 => ⟨p, xs, rfl, .inl (sqL_same (s.trans s2) hs), q _ H2 _ s2 (.int _) rfl⟩
def rLenStr : List V → Hp → VK → Prop := fun xs H Q => ∃ z, xs = [.str z] ∧ z.length ≤ sizeLine ∧ Q (.int z.length) H
theorem evd_lenS {z : Str} (h : EvD K te σ H (.str z)) (hl : z.length ≤ sizeLine) : EvD K (tCB rLenStr (tCons te tNil)) σ H (.int z.length) := evp_cb (eva_cons h eva_nil) fun H1 s vs p Q q => by
  cases p with
  | cons p1 p2 =>
    cases p2; cases p1
    exact ⟨z, rfl, hl, q _ H1 _ (Same.refl H1) (.int _) rfl⟩
theorem evd_all {bs : List Bool} (h : EvL K te σ H (bs.map .bool)) : EvD K (tCB (rAll K) (tCons te tNil)) σ H (.bool (bs.all id)) := fun H1 s Q q =>
  h H1 s _ fun p xs H2 hp s2 e2 d2 => ⟨p, bs, rfl, .inl (.inl (by rw [e2, d2.of_bls])), q _ H2 _ s2 (.bl _) rfl⟩
theorem evd_any {bs : List Bool} (h : EvL K te σ H (bs.map .bool)) : EvD K (tCB (rAny K) (tCons te tNil)) σ H (.bool (bs.any id)) := fun H1 s Q q =>
  h H1 s _ fun p xs H2 hp s2 e2 d2 => ⟨p, bs, rfl, .inl (.inl (by rw [e2, d2.of_bls])), q _ H2 _ s2 (.bl _) rfl⟩
/-- isinstance -/
def tyName : PyData → String
  | .none => "NoneType" | .bool _ => "bool" | .int _ => "int" | .str _ => "str" | .list _ => "list" | .tuple _ => "tuple" | .dict _ => "dict"
theorem tyx_of {v : V} {d : PyData} (h : Dq K H v d) : TyX K H v (.type (tyName d)) := by
  cases h with
  | non => exact .base .non
  | bl b => exact .base (.bl b)
  | int i => exact .base (.int i)
  | str i => exact .base (.str i)
  | lst hs =>
    rcases hs with (hs | ⟨o, hs⟩) | ⟨o, its, n, hk, hc, _⟩
    · exact .base (.lst hs)
    · exact .base (.frz hs)
    · exact .kList hk hc
  | tup hs _ =>
    rcases hs with (hs | ⟨o, hs⟩) | ⟨o, its, n, hk, hc, _⟩
    · exact .base (.tup hs)
    · exact .fTuple hs
    · exact .kTuple hk hc
theorem evd_isi {T : String} {b : Bool} (h : EvD K te σ H d) (hk : kitB (tyName d) T = some b) : EvD K (tCB (rIsi K) (tCons te (tCons (tC (.ty T)) tNil))) σ H (.bool b) := fun H1 s Q q =>
  h.run s fun v H2 s2 p2 => ⟨v, .ty T, .type (tyName d), .type T, b, rfl, .ty T, tyx_of p2, kit_ty hk, q _ H2 _ s2 (.bl b) rfl⟩

/-! ### statements -/
variable {D : Ends} {t1 t2 ts : TS}
theorem evs_if {b : Bool} (h : EvB tt σ H b) (h1 : b = true → ∀ H1, Same H H1 → t1 D σ H1) (h2 : b = false → ∀ H1, Same H H1 → t2 D σ H1) : tIfS tt t1 t2 D σ H := h H (Same.refl H) _ fun H1 s => by
  cases b with
  | true => exact iteT (h1 rfl H1 s)
  | false => exact iteF (h2 rfl H1 s)
theorem evs_set {P : PyData → Prop} {i : Nat} (h : EvP K te σ H P) (q : ∀ v H1 r, Same H H1 → Dq K H1 v r → P r → D.nx (σ.set i (some v)) H1) : tAsg te (gName i) D σ H := h.use _ q
theorem evs_setD {i : Nat} (h : EvD K te σ H d) (q : ∀ v H1, Same H H1 → Dq K H1 v d → D.nx (σ.set i (some v)) H1) : tAsg te (gName i) D σ H := h.use _ q
theorem evs_ret {P : PyData → Prop} (h : EvP K te σ H P) (q : ∀ v H1 r, Same H H1 → Dq K H1 v r → P r → D.rt v H1) : tRet te D σ H := h.use _ q
theorem evs_retD (h : EvD K te σ H d) (q : ∀ v H1, Same H H1 → Dq K H1 v d → D.rt v H1) : tRet te D σ H := h.use _ q
theorem evs_drop {P : PyData → Prop} (h : EvP K te σ H P) (q : ∀ H1 r, Same H H1 → P r → D.nx σ H1) : tDrop te D σ H := h.use _ fun v H1 r s p e => q H1 r s e
end
end KD

set_option maxRecDepth 100000
set_option maxHeartbeats 2000000
/-! What is walked, as data; comprehensions over data. -/
namespace KD
open PySem PySem.Spec PyProof.Rows L2

/-- J walks ds, as long as the heap stands to H as Rl says -/
structure ItR (Rl : Hp → Hp → Prop) (K : PySem.W.Frag) (J : It) (H : Hp) (ds : List PyData) : Prop where
  stop : ∀ H', Rl H H' → J.stop ds.length H'
  go : ∀ i d H', ds[i]? = some d → Rl H H' → J.go i H'
  yld : ∀ i d x H' H'', ds[i]? = some d → Rl H H' → J.yld i H' x H'' → Same H' H'' ∧ Dq K H'' x d
def EvI (Rl : Hp → Hp → Prop) (K : PySem.W.Frag) (wi : TI) (σ : L2.St) (H : Hp) (ds : List PyData) : Prop :=
  ∀ H1, Same H H1 → ∀ R : It → Hp → Prop, (∀ J H2, Same H1 H2 → ItR Rl K J H2 ds → R J H2) → wi σ H1 R
section
variable {K : PySem.W.Frag} {H H' : Hp} {σ : L2.St} {te tk : TE} {tt : TT} {ds : List PyData} {wi : TI} {J : It}
theorem ItR.same (h : ItR Kp K J H ds) : ItR Same K J H ds := ⟨fun H' s => h.stop H' (.of s), fun i d H' e s => h.go i d H' e (.of s), fun i d x H' H'' e s => h.yld i d x H' H'' e (.of s)⟩
theorem EvI.same (h : EvI Kp K wi σ H ds) : EvI Same K wi σ H ds := fun H1 s R q => h H1 s R fun J H2 s2 it => q J H2 s2 it.same
theorem evi_tup (h : EvD K te σ H (.tuple ds)) : EvI Kp K (iTup K te) σ H ds := fun H1 s R q => h.run s fun v H2 s2 p2 => by
  obtain ⟨a, xs, rfl, h1, h2⟩ := p2.tupE
  refine ⟨a, rfl, ⟨xs, h1⟩, q _ H2 s2 ⟨fun H' k => ?_, fun i d H' e k => ?_, fun i d x H' H'' e k y => ?_⟩⟩
  · exact ⟨xs, sqT_kp k h1, by rw [h2.length]; exact Nat.le_refl _⟩
  · obtain ⟨v, hv, _⟩ := h2.get e
    exact ⟨xs, v, sqT_kp k h1, hv⟩
  · obtain ⟨v, hv, hp⟩ := h2.get e
    obtain ⟨rfl, z⟩ := y
    have := (z xs (sqT_kp k h1)).symm.trans hv
    cases this
    exact ⟨Same.refl _, hp.kp k⟩
theorem evi_list (h : EvL K te σ H ds) : EvI Same K (iList K te) σ H ds := fun H1 s R q => h H1 s _ fun p xs H2 hp s2 e2 d2 => by
  have h1 : SqL K H2 p xs := .inl (.inl e2)
  refine ⟨p, rfl, ⟨xs, h1⟩, q _ H2 s2 ⟨fun H' k => ?_, fun i d H' e k => ?_, fun i d x H' H'' e k y => ?_⟩⟩
  · exact ⟨xs, sqL_same k h1, by rw [d2.length]; exact Nat.le_refl _⟩
  · obtain ⟨v, hv, _⟩ := d2.get e
    exact ⟨xs, v, sqL_same k h1, hv⟩
  · obtain ⟨v, hv, hp⟩ := d2.get e
    obtain ⟨rfl, z⟩ := y
    have := (z xs (sqL_same k h1)).symm.trans hv
    cases this
    exact ⟨Same.refl _, hp.mono k⟩
/-- over a list that stands -/
theorem evi_listS {p : Addr} {xs : List V} (hs : SqL K H p xs) (hd : DqAll K H xs ds) (ha : ∀ H1, Same H H1 → ∀ Q : VK, (∀ H2, Same H1 H2 → Q (.ref p) H2) → te σ H1 Q) : EvI Same K (iList K te) σ H ds := fun H1 s R q => ha H1 s _ fun H2 s2 => by
  have h1 : SqL K H2 p xs := sqL_same (s.trans s2) hs
  have d2 : DqAll K H2 xs ds := hd.mono (s.trans s2)
  refine ⟨p, rfl, ⟨xs, h1⟩, q _ H2 s2 ⟨fun H' k => ?_, fun i d H' e k => ?_, fun i d x H' H'' e k y => ?_⟩⟩
  · exact ⟨xs, sqL_same k h1, by rw [d2.length]; exact Nat.le_refl _⟩
  · obtain ⟨v, hv, _⟩ := d2.get e
    exact ⟨xs, v, sqL_same k h1, hv⟩
  · obtain ⟨v, hv, hp⟩ := d2.get e
    obtain ⟨rfl, z⟩ := y
    have := (z xs (sqL_same k h1)).symm.trans hv
    cases this
    exact ⟨Same.refl _, hp.mono k⟩
def signs (z : Str) : List PyData := z.cps.toList.map fun c => .str ⟨#[c]⟩
theorem evi_str {z : Str} (h : EvD K te σ H (.str z)) : EvI Kp K (iStr te) σ H (signs z) := fun H1 s R q => h.run s fun v H2 s2 p2 => by
  cases p2
  have hl : (signs z).length = z.cps.size := by simp [signs]
  refine ⟨z, rfl, q _ H2 s2 ⟨fun H' k => ?_, fun i d H' e k => ?_, fun i d x H' H'' e k y => ?_⟩⟩
  · show z.cps.size ≤ (signs z).length
    rw [hl]; exact Nat.le_refl _
  · show i < z.cps.size
    have := (List.getElem?_eq_some_iff.mp e).1
    omega
  · obtain ⟨rfl, c, hc, rfl⟩ := y
    refine ⟨Same.refl _, ?_⟩
    have : (signs z)[i]? = some (.str ⟨#[c]⟩) := by
      unfold signs
      rw [List.getElem?_map, Array.getElem?_toList, hc]; rfl
    rw [this] at e
    cases e
    exact .str _
def iRg1 (ta : TA) : TI := fun σ H R => ta σ H fun vs H1 => ∃ j : Int, vs = [.int j] ∧ -(2 ^ 62) ≤ j ∧ j < 2 ^ 62 ∧ R (Itr 0 j.toNat) H1
def nats (n : Nat) : List PyData := (List.range n).map fun i => .int (i : Nat)
theorem itr_nats {n : Nat} : ItR Kp K (Itr 0 n) H (nats n) := by
  have hl : (nats n).length = n := by simp [nats]
  refine ⟨fun H' k => ?_, fun i d H' e k => ?_, fun i d x H' H'' e k y => ?_⟩
  · show n ≤ (nats n).length
    omega
  · show i < n
    have := (List.getElem?_eq_some_iff.mp e).1
    omega
  · obtain ⟨rfl, rfl⟩ := y
    have hi : i < n := by
      have := (List.getElem?_eq_some_iff.mp e).1
      omega
    have : (nats n)[i]? = some (.int (i : Nat)) := by
      unfold nats
      rw [List.getElem?_map, List.getElem?_range hi]; rfl
    rw [this] at e
    cases e
    refine ⟨Same.refl _, ?_⟩
    rw [Int.zero_add]
    exact .int _
theorem evi_range1 {n : Nat} (h : EvD K te σ H (.int (n : Nat))) (hn : n ≤ 100000) : EvI Kp K (iRng1 (tCons te tNil)) σ H (nats n) := fun H1 s R q => h.run s fun v H2 s2 p2 => by
  cases p2
  refine ⟨n, rfl, by omega, by omega, ?_⟩
  rw [Int.toNat_natCast]
  exact q _ H2 s2 itr_nats

theorem len100 {acc : List V} (h : acc.length ≤ 100000) : acc.length < sizeLine := Nat.lt_of_le_of_lt h (by decide)
/-- a comprehension: Tg says what the slots hold when the target holds d -/
theorem evl_lcG {g : TG} {vs : List Nat} (hs : EvI Same K wi σ H ds) (hl : ds.length ≤ 100000) (f : PyData → Option PyData) (Tg : PyData → L2.St → Hp → Prop)
    (hg : ∀ d x H1, d ∈ ds → Same H H1 → Dq K H1 x d → ∀ Q : L2.St → Hp → Prop, (∀ σ2, Tg d σ2 H1 → wipe σ2 vs = wipe σ vs → Q σ2 H1) → g x (wipe σ vs) H1 Q)
    (h : ∀ d σ2 H1, d ∈ ds → Same H H1 → Tg d σ2 H1 → match f d with
      | none => EvB tt σ2 H1 false
      | some e => EvB tt σ2 H1 true ∧ EvD K te σ2 H1 e) : EvL K (tLc wi g tt te vs) σ H (ds.filterMap f) := fun H1 s Q q => by
  refine hs H1 s _ fun J H2 s2 it => fun D hD => ?_
  refine ⟨fun k m H' => m = ds.length - k ∧ k ≤ ds.length ∧ Same H2 H' ∧ ∃ acc, H' D = some (.lst acc) ∧ DqAll K H' acc ((ds.take k).filterMap f), ⟨ds.length, by simp, Nat.zero_le _, same_new hD, [], upd_same, by simpa using DqAll.nil⟩, ?_⟩
  rintro k m H' ⟨rfl, hk, s', acc, ea, da⟩
  by_cases hlt : k < ds.length
  · have e : ds[k]? = some ds[k] := List.getElem?_eq_getElem hlt
    have hmem : ds[k] ∈ ds := List.getElem_mem hlt
    refine .inr ⟨it.go k _ H' e s', fun H'' => k + 1 ≤ ds.length ∧ Same H2 H'' ∧ ∃ acc, H'' D = some (.lst acc) ∧ DqAll K H'' acc ((ds.take (k + 1)).filterMap f), fun H'' ⟨a, b, c⟩ => ⟨ds.length - (k + 1), by omega, rfl, a, b, c⟩, fun x H'' y => ?_⟩
    obtain ⟨s3, dx⟩ := it.yld k _ x H' H'' e s' y
    have s03 : Same H H'' := ((s.trans s2).trans s').trans s3
    have tk : (ds.take (k + 1)).filterMap f = (ds.take k).filterMap f ++ (f ds[k]).toList := by
      rw [List.take_add_one, e, List.filterMap_append]
      cases hf : f ds[k] <;> simp [hf]
    have len : acc.length ≤ 100000 := by
      rw [da.length]
      have h1 := List.length_filterMap_le f (ds.take k)
      rw [List.length_take] at h1
      omega
    refine hg _ x H'' hmem s03 dx _ fun σ2 tg hw => ⟨hw, ?_⟩
    have z := h _ σ2 H'' hmem s03 tg
    cases hf : f ds[k] with
    | none =>
      rw [hf] at z
      refine z H'' (Same.refl _) _ fun H3 s4 => ?_
      refine iteF ⟨hlt, (s'.trans s3).trans s4, acc, s4 _ _ (s3 _ _ ea), ?_⟩
      rw [tk, hf]
      simpa using da.mono (s3.trans s4)
    | some b =>
      rw [hf] at z
      refine z.1 H'' (Same.refl _) _ fun H3 s4 => ?_
      refine iteT (z.2.run s4 fun v H4 s5 p5 => ?_)
      have e4 : H4 D = some (.lst acc) := s5 _ _ (s4 _ _ (s3 _ _ ea))
      refine ⟨acc, e4, len100 len, hlt, same_mut (((s'.trans s3).trans s4).trans s5) hD, _, upd_same, ?_⟩
      rw [tk, hf]
      exact ((da.mono ((s3.trans s4).trans s5)).kp (.updL e4)).snoc (p5.kp (.updL e4))
  · have hk' : k = ds.length := by omega
    subst hk'
    refine .inl ⟨it.stop H' s', ?_⟩
    rw [List.take_length] at da
    exact q D acc H' (s2.free hD) (s2.trans s') ea da
/-- [e for x in .. if t] -/
theorem evl_lc {i : Nat} (hs : EvI Same K wi σ H ds) (hl : ds.length ≤ 100000) (f : PyData → Option PyData)
    (h : ∀ d x H1, d ∈ ds → Same H H1 → Dq K H1 x d → match f d with
      | none => EvB tt ((wipe σ [i]).set i (some x)) H1 false
      | some e => EvB tt ((wipe σ [i]).set i (some x)) H1 true ∧ EvD K te ((wipe σ [i]).set i (some x)) H1 e)
    (hw : ∀ x : V, wipe ((wipe σ [i]).set i (some x)) [i] = wipe σ [i] := by intro _; rfl) : EvL K (tLc wi (gName i) tt te [i]) σ H (ds.filterMap f) :=
  evl_lcG hs hl f (fun d σ2 H1 => ∃ x, Dq K H1 x d ∧ σ2 = (wipe σ [i]).set i (some x)) (fun d x H1 _ _ dx Q q => q _ ⟨x, dx, rfl⟩ (hw x)) fun d σ2 H1 hd s ⟨x, dx, e⟩ => e ▸ h d x H1 hd s dx
/-- [e for x in ..] -/
theorem evl_map {i : Nat} (hs : EvI Same K wi σ H ds) (hl : ds.length ≤ 100000) (f : PyData → PyData)
    (h : ∀ d x H1, d ∈ ds → Same H H1 → Dq K H1 x d → EvD K te ((wipe σ [i]).set i (some x)) H1 (f d))
    (hw : ∀ x : V, wipe ((wipe σ [i]).set i (some x)) [i] = wipe σ [i] := by intro _; rfl) : EvL K (tLc wi (gName i) tYes te [i]) σ H (ds.map f) :=
  (evl_lc hs hl (fun d => some (f d)) (fun d x H1 hd s dx => ⟨evb_yes, h d x H1 hd s dx⟩) hw).is (by rw [List.filterMap_eq_map'])
/-- [e for x, y in ..], pairs -/
theorem evl_map2 {i j : Nat} (hs : EvI Same K wi σ H ds) (hl : ds.length ≤ 100000) (f : PyData → PyData) (hp : ∀ d ∈ ds, ∃ a b, d = .tuple [a, b])
    (h : ∀ a b x y H1, .tuple [a, b] ∈ ds → Same H H1 → Dq K H1 x a → Dq K H1 y b → EvD K te (((wipe σ [i, j]).set i (some x)).set j (some y)) H1 (f (.tuple [a, b])))
    (hw : ∀ x y : V, wipe (((wipe σ [i, j]).set i (some x)).set j (some y)) [i, j] = wipe σ [i, j] := by intro _ _; rfl) :
    EvL K (tLc wi (gTup K 2 (gCons (gName i) (gCons (gName j) gNil))) tYes te [i, j]) σ H (ds.map f) :=
  (evl_lcG hs hl (fun d => some (f d)) (fun d σ2 H1 => ∃ a b x y, d = .tuple [a, b] ∧ Dq K H1 x a ∧ Dq K H1 y b ∧ σ2 = ((wipe σ [i, j]).set i (some x)).set j (some y))
    (fun d x H1 hd _ dx Q q => by
      obtain ⟨a, b, rfl⟩ := hp d hd
      obtain ⟨p, xs, rfl, h1, h2⟩ := dx.tupE
      obtain ⟨u, v, rfl, k1, k2⟩ := h2.two
      exact ⟨p, _, rfl, h1, rfl, u, [v], rfl, v, [], rfl, rfl, q _ ⟨a, b, u, v, rfl, k1, k2, rfl⟩ (hw u v)⟩)
    (fun d σ2 H1 hd s ⟨a, b, x, y, e1, k1, k2, e2⟩ => by
      subst e1
      rw [e2]
      exact ⟨evb_yes, h a b x y H1 hd s k1 k2⟩)).is (by rw [List.filterMap_eq_map'])
end
end KD

set_option maxRecDepth 100000
set_option maxHeartbeats 2000000
/-! for and while over data. -/
namespace KD
open PySem PySem.Spec PyProof.Rows L2
section
variable {Rl : Hp → Hp → Prop} {K : PySem.W.Frag} {H H' : Hp} {σ : L2.St} {te : TE} {tt : TT} {ds : List PyData} {wi : TI} {J : It} {tb : TS} {D : Ends}
/-- a list that stands may be walked while others change -/
theorem evi_listF {p : Addr} {xs : List V} (hs : SqL K H p xs) (hd : DqAll K H xs ds) (ha : ∀ H1, Same H H1 → ∀ Q : VK, (∀ H2, Same H1 H2 → Q (.ref p) H2) → te σ H1 Q) :
    EvI (fun _ H' => SqL K H' p xs ∧ DqAll K H' xs ds) K (iList K te) σ H ds := fun H1 s R q => ha H1 s _ fun H2 s2 => by
  have h1 : SqL K H2 p xs := sqL_same (s.trans s2) hs
  refine ⟨p, rfl, ⟨xs, h1⟩, q _ H2 s2 ⟨fun H' k => ?_, fun i d H' e k => ?_, fun i d x H' H'' e k y => ?_⟩⟩
  · exact ⟨xs, k.1, by rw [k.2.length]; exact Nat.le_refl _⟩
  · obtain ⟨v, hv, _⟩ := k.2.get e
    exact ⟨xs, v, k.1, hv⟩
  · obtain ⟨v, hv, hp⟩ := k.2.get e
    obtain ⟨rfl, z⟩ := y
    have := (z xs k.1).symm.trans hv
    cases this
    exact ⟨Same.refl _, hp⟩
theorem evs_forG {g : TG} (hs : EvI Rl K wi σ H ds) (Pv : Hp → Nat → L2.St → Hp → Prop) (hk : ∀ H2 i σ' H', Same H H2 → i ≤ ds.length → Pv H2 i σ' H' → Rl H2 H') (h0 : ∀ H2, Same H H2 → Pv H2 0 σ H2)
    (step : ∀ H2 i d σ' H' x H'', Same H H2 → ds[i]? = some d → Pv H2 i σ' H' → Same H' H'' → Dq K H'' x d → g x σ' H'' fun σ2 H3 => tb { D with nx := Pv H2 (i + 1), ct := Pv H2 (i + 1), bk := D.nx } σ2 H3)
    (fin : ∀ H2 σ' H', Same H H2 → Pv H2 ds.length σ' H' → D.nx σ' H') : tFor wi g tb D σ H := by
  refine hs H (Same.refl H) _ fun J H2 s2 it => ?_
  refine ⟨fun i m σ' H' => m = ds.length - i ∧ i ≤ ds.length ∧ Pv H2 i σ' H', ⟨ds.length, by simp, Nat.zero_le _, h0 H2 s2⟩, ?_⟩
  rintro i m σ' H' ⟨rfl, hi, p⟩
  have r := hk H2 i σ' H' s2 hi p
  by_cases lt : i < ds.length
  · have e : ds[i]? = some ds[i] := List.getElem?_eq_getElem lt
    refine .inr ⟨it.go i _ H' e r, fun σ'' H'' => Pv H2 (i + 1) σ'' H'', fun σ'' H'' p' => ⟨ds.length - (i + 1), by omega, rfl, lt, p'⟩, fun x H'' y => ?_⟩
    obtain ⟨s3, dx⟩ := it.yld i _ x H' H'' e r y
    exact step H2 i _ σ' H' x H'' s2 e p s3 dx
  · have e : i = ds.length := by omega
    subst e
    exact .inl ⟨it.stop H' r, fin H2 σ' H' s2 p⟩
theorem evs_for {t : Nat} (hs : EvI Rl K wi σ H ds) (Pv : Hp → Nat → L2.St → Hp → Prop) (hk : ∀ H2 i σ' H', Same H H2 → i ≤ ds.length → Pv H2 i σ' H' → Rl H2 H') (h0 : ∀ H2, Same H H2 → Pv H2 0 σ H2)
    (step : ∀ H2 i d σ' H' x H'', Same H H2 → ds[i]? = some d → Pv H2 i σ' H' → Same H' H'' → Dq K H'' x d → tb { D with nx := Pv H2 (i + 1), ct := Pv H2 (i + 1), bk := D.nx } (σ'.set t (some x)) H'')
    (fin : ∀ H2 σ' H', Same H H2 → Pv H2 ds.length σ' H' → D.nx σ' H') : tFor wi (gName t) tb D σ H := evs_forG hs Pv hk h0 step fin
/-- t1, .., tn = e, a tuple of four -/
theorem evs_tup4 {i j k l : Nat} {a b c d : PyData} (h : EvD K te σ H (.tuple [a, b, c, d]))
    (q : ∀ x y z u H1, Same H H1 → Dq K H1 x a → Dq K H1 y b → Dq K H1 z c → Dq K H1 u d → D.nx ((((σ.set i (some x)).set j (some y)).set k (some z)).set l (some u)) H1) :
    tAsg te (gTup K 4 (gCons (gName i) (gCons (gName j) (gCons (gName k) (gCons (gName l) gNil))))) D σ H := h.use _ fun v H1 s p => by
  obtain ⟨ad, xs, rfl, h1, h2⟩ := p.tupE
  obtain ⟨x, y, z, u, rfl, k1, k2, k3, k4⟩ := h2.four
  exact ⟨ad, _, rfl, h1, rfl, x, _, rfl, y, _, rfl, z, _, rfl, u, _, rfl, rfl, q x y z u H1 s k1 k2 k3 k4⟩
theorem evs_tup3 {i j k : Nat} {a b c : PyData} (h : EvD K te σ H (.tuple [a, b, c]))
    (q : ∀ x y z H1, Same H H1 → Dq K H1 x a → Dq K H1 y b → Dq K H1 z c → D.nx (((σ.set i (some x)).set j (some y)).set k (some z)) H1) :
    tAsg te (gTup K 3 (gCons (gName i) (gCons (gName j) (gCons (gName k) gNil)))) D σ H := h.use _ fun v H1 s p => by
  obtain ⟨ad, xs, rfl, h1, h2⟩ := p.tupE
  obtain ⟨x, y, z, rfl, k1, k2, k3⟩ := h2.three
  exact ⟨ad, _, rfl, h1, rfl, x, _, rfl, y, _, rfl, z, _, rfl, rfl, q x y z H1 s k1 k2 k3⟩
theorem evs_tup2 {i j : Nat} {a b : PyData} (h : EvD K te σ H (.tuple [a, b]))
    (q : ∀ x y H1, Same H H1 → Dq K H1 x a → Dq K H1 y b → D.nx ((σ.set i (some x)).set j (some y)) H1) :
    tAsg te (gTup K 2 (gCons (gName i) (gCons (gName j) gNil))) D σ H := h.use _ fun v H1 s p => by
  obtain ⟨ad, xs, rfl, h1, h2⟩ := p.tupE
  obtain ⟨x, y, rfl, k1, k2⟩ := h2.two
  exact ⟨ad, _, rfl, h1, rfl, x, _, rfl, y, _, rfl, rfl, q x y H1 s k1 k2⟩
/-- a name gets a new list -/
theorem evs_setL {i : Nat} (h : EvL K te σ H ds) (q : ∀ p xs H1, H p = none → Same H H1 → H1 p = some (.lst xs) → DqAll K H1 xs ds → D.nx (σ.set i (some (.ref p))) H1) : tAsg te (gName i) D σ H := h.use _ q
/-- tuple(new list) -/
def rTupS (K : PySem.W.Frag) : List V → Hp → VK → Prop := fun xs H Q => ∃ p ys, xs = [.ref p] ∧ ((SqL K H p ys ∧ ∀ l, H l = none → Q (.ref l) (upd H l (.tup ys))) ∨ (SqT K H p ys ∧ Q (.ref p) H))
theorem evd_tupleL (h : EvL K te σ H ds) : EvD K (tCB (rTupS K) (tCons te tNil)) σ H (.tuple ds) := fun H1 s Q q =>
  h H1 s _ fun p xs H2 hp s2 e2 d2 => ⟨p, xs, rfl, .inl ⟨.inl (.inl e2), fun l hl => q _ _ _ (s2.trans (same_new hl)) (.tup (.inl (.inl upd_same)) (d2.mono (same_new hl))) rfl⟩⟩
theorem evd_tupleLs {p : Addr} {xs : List V} (hs : SqL K H p xs) (hd : DqAll K H xs ds) (ha : ∀ H1, Same H H1 → ∀ Q : VK, (∀ H2, Same H1 H2 → Q (.ref p) H2) → te σ H1 Q) : EvD K (tCB (rTupS K) (tCons te tNil)) σ H (.tuple ds) := fun H1 s Q q =>
  ha H1 s _ fun H2 s2 => ⟨p, xs, rfl, .inl ⟨sqL_same (s.trans s2) hs, fun l hl => q _ _ _ (s2.trans (same_new hl)) (.tup (.inl (.inl upd_same)) ((hd.mono (s.trans s2)).mono (same_new hl))) rfl⟩⟩
end
end KD

set_option maxRecDepth 100000
set_option maxHeartbeats 2000000
/-! The rules that name the written part, by a letter of its own (within a comprehension too). -/
namespace KD
open PySem PySem.Spec PyProof.Rows L2
section
variable {X : Cx} {K : PySem.W.Frag}
theorem kLen (hK : X.K = K := by rfl) : CallR X (.builtin "len") (rLenS K) := by subst hK; exact call_len_seq
theorem kAll (hc : X.calm = true := by rfl) (hK : X.K = K := by rfl) : CallR X (.builtin "all") (rAll K) := by subst hK; exact cr_all hc
theorem kAny (hc : X.calm = true := by rfl) (hK : X.K = K := by rfl) : CallR X (.builtin "any") (rAny K) := by subst hK; exact cr_any hc
theorem kMin (hc : X.calm = true := by rfl) (hK : X.K = K := by rfl) : CallR X (.builtin "min") (rMin K) := by subst hK; exact cr_min hc
theorem kMax (hc : X.calm = true := by rfl) (hK : X.K = K := by rfl) : CallR X (.builtin "max") (rMax K) := by subst hK; exact cr_max hc
theorem kSorted (hK : X.K = K := by rfl) : CallR X (.builtin "sorted") (rSortedI K) := by subst hK; exact cr_sortedI
theorem kIsi (hK : X.K = K := by rfl) : CallR X (.builtin "isinstance") (rIsi K) := by subst hK; exact call_isi
theorem kIxT (hK : X.K = K := by rfl) : IxR X (rIxT K) := by subst hK; exact ix_tup
theorem kIxL (hK : X.K = K := by rfl) : IxR X (rIxL K) := by subst hK; exact ix_list
theorem kEqD (hu : X.A.units + 64 < cLine) (hK : X.K = K := by rfl) : OpR X (compareOp .Eq) (rEqD K) := by subst hK; exact op_eqD hu
theorem kNeD (hu : X.A.units + 64 < cLine) (hK : X.K = K := by rfl) : OpR X (compareOp .NotEq) (rNeD K) := by subst hK; exact op_neD hu
theorem kInS (hK : X.K = K := by rfl) : OpR X (compareOp .In) (rIn K false) := by subst hK; exact op_in_seq
theorem kNotInS (hK : X.K = K := by rfl) : OpR X (compareOp .NotIn) (rIn K true) := by subst hK; exact op_notIn_seq
theorem kTup (hK : X.K = K := by rfl) : CallR X (.type "tuple") (rTupS K) := by subst hK; exact call_tuple_of
theorem kCatT (hK : X.K = K := by rfl) : OpR X (binaryOp .Add) (rCatA K) := by subst hK; exact op_catA
theorem kRepT (hK : X.K = K := by rfl) : OpR X (binaryOp .Mult) (rRepT K) := by subst hK; exact op_repT
theorem kSlT (hK : X.K = K := by rfl) : SlR X (rSlT K) := by subst hK; exact sl_tup
theorem kiList {tg l : Expr} {tl : TE} (hl : PE X l tl) (hK : X.K = K := by rfl) : PI X tg l (iList K tl) := by subst hK; exact pi_list hl
theorem kiTup {tg l : Expr} {tl : TE} (hl : PE X l tl) (hK : X.K = K := by rfl) : PI X tg l (iTup K tl) := by subst hK; exact pi_tup hl
theorem kgTup {es : List Expr} {k : Nat} {t : TGs} {pos : Pos} {n : Nat} (hc : X.calm = true) (h : PGs X es t) (hn : (assignEach es X.env).length = n := by rfl) (hst : (assignEach es X.env).findIdx? (·.1) = none := by rfl) (hK : X.K = K := by rfl) :
    PG X (.Tuple es k pos) (gTup K n t) := by
  subst hK
  exact pg_tup (n := n) hc h hn hst
end
/-- x += y at a name, ints -/
theorem evs_aug {K : PySem.W.Frag} {H : Hp} {σ : L2.St} {te : TE} {D : Ends} {i : Nat} {a b : Int} (h0 : σ[i]? = some (some (.int a))) (h : EvD K te σ H (.int b)) (q : ∀ H1, Same H H1 → D.nx (σ.set i (some (.int (a + b)))) H1) :
    tAug i te (ipI fun i j => i + j) D σ H := ⟨_, h0, h.use _ fun v H1 s p => by
  cases p
  exact ⟨a, b, rfl, rfl, q H1 s⟩⟩
/-! ### a statement and what stands behind it -/
section
variable {Rl : Hp → Hp → Prop} {K : PySem.W.Frag} {H : Hp} {σ : L2.St} {te : TE} {tt : TT} {ds : List PyData} {wi : TI} {tb t1 t2 u : TS} {D : Ends} {d : PyData}
theorem evq_set {P : PyData → Prop} {i : Nat} (h : EvP K te σ H P) (q : ∀ v H1 r, Same H H1 → Dq K H1 v r → P r → u D (σ.set i (some v)) H1) : tSeq (tAsg te (gName i)) u D σ H := h.use _ q
theorem evq_setD {i : Nat} (h : EvD K te σ H d) (q : ∀ v H1, Same H H1 → Dq K H1 v d → u D (σ.set i (some v)) H1) : tSeq (tAsg te (gName i)) u D σ H := h.use _ q
theorem evq_setL {i : Nat} (h : EvL K te σ H ds) (q : ∀ p xs H1, H p = none → Same H H1 → H1 p = some (.lst xs) → DqAll K H1 xs ds → u D (σ.set i (some (.ref p))) H1) : tSeq (tAsg te (gName i)) u D σ H := h.use _ q
theorem evq_drop {P : PyData → Prop} (h : EvP K te σ H P) (q : ∀ H1 r, Same H H1 → P r → u D σ H1) : tSeq (tDrop te) u D σ H := h.use _ fun v H1 r s p e => q H1 r s e
theorem evq_aug {i : Nat} {a b : Int} (h0 : σ[i]? = some (some (.int a))) (h : EvD K te σ H (.int b)) (q : ∀ H1, Same H H1 → u D (σ.set i (some (.int (a + b)))) H1) : tSeq (tAug i te (ipI fun i j => i + j)) u D σ H := evs_aug h0 h q
theorem evq_tup4 {i j k l : Nat} {a b c e : PyData} (h : EvD K te σ H (.tuple [a, b, c, e]))
    (q : ∀ x y z v H1, Same H H1 → Dq K H1 x a → Dq K H1 y b → Dq K H1 z c → Dq K H1 v e → u D ((((σ.set i (some x)).set j (some y)).set k (some z)).set l (some v)) H1) :
    tSeq (tAsg te (gTup K 4 (gCons (gName i) (gCons (gName j) (gCons (gName k) (gCons (gName l) gNil)))))) u D σ H := evs_tup4 h q
theorem evq_tup3 {i j k : Nat} {a b c : PyData} (h : EvD K te σ H (.tuple [a, b, c])) (q : ∀ x y z H1, Same H H1 → Dq K H1 x a → Dq K H1 y b → Dq K H1 z c → u D (((σ.set i (some x)).set j (some y)).set k (some z)) H1) :
    tSeq (tAsg te (gTup K 3 (gCons (gName i) (gCons (gName j) (gCons (gName k) gNil))))) u D σ H := evs_tup3 h q
theorem evq_tup2 {i j : Nat} {a b : PyData} (h : EvD K te σ H (.tuple [a, b])) (q : ∀ x y H1, Same H H1 → Dq K H1 x a → Dq K H1 y b → u D ((σ.set i (some x)).set j (some y)) H1) :
    tSeq (tAsg te (gTup K 2 (gCons (gName i) (gCons (gName j) gNil)))) u D σ H := evs_tup2 h q
/-- if without else -/
theorem evq_ifn {b : Bool} (h : EvB tt σ H b) (h1 : b = true → ∀ H1, Same H H1 → t1 { D with nx := u D } σ H1) (h2 : b = false → ∀ H1, Same H H1 → u D σ H1) : tSeq (tIfS tt t1 tNext) u D σ H := evs_if h h1 h2
theorem evq_if {b : Bool} (h : EvB tt σ H b) (h1 : b = true → ∀ H1, Same H H1 → t1 { D with nx := u D } σ H1) (h2 : b = false → ∀ H1, Same H H1 → t2 { D with nx := u D } σ H1) : tSeq (tIfS tt t1 t2) u D σ H := evs_if h h1 h2
theorem evq_for {t : Nat} (hs : EvI Rl K wi σ H ds) (Pv : Hp → Nat → L2.St → Hp → Prop) (hk : ∀ H2 i σ' H', Same H H2 → i ≤ ds.length → Pv H2 i σ' H' → Rl H2 H') (h0 : ∀ H2, Same H H2 → Pv H2 0 σ H2)
    (step : ∀ H2 i d σ' H' x H'', Same H H2 → ds[i]? = some d → Pv H2 i σ' H' → Same H' H'' → Dq K H'' x d → tb { D with nx := Pv H2 (i + 1), ct := Pv H2 (i + 1), bk := u D } (σ'.set t (some x)) H'')
    (fin : ∀ H2 σ' H', Same H H2 → Pv H2 ds.length σ' H' → u D σ' H') : tSeq (tFor wi (gName t) tb) u D σ H := evs_for (D := { D with nx := u D }) hs Pv hk h0 step fin
theorem evq_par {i j : Nat} {a b : PyData} {ta : TA} (h : EvA K ta σ H [a, b]) (q : ∀ x y H1, Same H H1 → Dq K H1 x a → Dq K H1 y b → u D ((σ.set i (some x)).set j (some y)) H1) : tSeq (tPar i j ta) u D σ H := h H (Same.refl H) _ fun vs H1 s p => by
  obtain ⟨x, y, rfl, k1, k2⟩ := p.two
  exact ⟨x, y, rfl, q x y H1 s k1 k2⟩
end
end KD

set_option maxRecDepth 100000
set_option maxHeartbeats 2000000
/-! Comprehensions whose elements change what stands. -/
namespace KD
open PySem PySem.Spec PyProof.Rows L2
section
variable {Rl : Hp → Hp → Prop} {K : PySem.W.Frag} {H : Hp} {σ : L2.St} {te : TE} {tt : TT} {ds : List PyData} {wi : TI} {g : TG} {vs : List Nat} {Q : VK}
/-- D: the new list; Pv of the turn, what is made so far, the heap -/
theorem lc_inv (hs : EvI Rl K wi σ H ds) (hl : ds.length ≤ 100000) (Pv : Hp → Addr → Nat → List V → Hp → Prop)
    (hk : ∀ H2 D i acc H', Same H H2 → H2 D = none → i ≤ ds.length → Pv H2 D i acc H' → Rl H2 H') (h0 : ∀ H2 D, Same H H2 → H2 D = none → Pv H2 D 0 [] (upd H2 D (.lst [])))
    (step : ∀ H2 D i d acc H' x H'', Same H H2 → H2 D = none → ds[i]? = some d → H' D = some (.lst acc) → Pv H2 D i acc H' → Same H' H'' → Dq K H'' x d →
      g x (wipe σ vs) H'' fun σ2 H3 => wipe σ2 vs = wipe σ vs ∧ tt σ2 H3 fun b H4 => if b = true then te σ2 H4 fun y H5 => H5 D = some (.lst acc) ∧ Pv H2 D (i + 1) (acc ++ [y]) (upd H5 D (.lst (acc ++ [y]))) else H4 D = some (.lst acc) ∧ Pv H2 D (i + 1) acc H4)
    (mg : ∀ x σ' H' (Q1 Q2 : L2.St → Hp → Prop), (∀ a b, Q1 a b → Q2 a b) → g x σ' H' Q1 → g x σ' H' Q2) (mt : ∀ σ' H' (Q1 Q2 : Bool → Hp → Prop), (∀ a b, Q1 a b → Q2 a b) → tt σ' H' Q1 → tt σ' H' Q2)
    (me : ∀ σ' H' (Q1 Q2 : VK), (∀ a b, Q1 a b → Q2 a b) → te σ' H' Q1 → te σ' H' Q2)
    (fin : ∀ H2 D acc H', Same H H2 → H2 D = none → H' D = some (.lst acc) → Pv H2 D ds.length acc H' → Q (.ref D) H') : tLc wi g tt te vs σ H Q := by
  refine hs H (Same.refl H) _ fun J H2 s2 it => fun D hD => ?_
  refine ⟨fun i m H' => m = ds.length - i ∧ i ≤ ds.length ∧ ∃ acc, acc.length ≤ i ∧ H' D = some (.lst acc) ∧ Pv H2 D i acc H', ⟨ds.length, by simp, Nat.zero_le _, [], Nat.le_refl _, upd_same, h0 H2 D s2 hD⟩, ?_⟩
  rintro i m H' ⟨rfl, hi, acc, la, ea, p⟩
  have r := hk H2 D i acc H' s2 hD hi p
  by_cases lt : i < ds.length
  · have e : ds[i]? = some ds[i] := List.getElem?_eq_getElem lt
    refine .inr ⟨it.go i _ H' e r, fun H'' => i + 1 ≤ ds.length ∧ ∃ acc, acc.length ≤ i + 1 ∧ H'' D = some (.lst acc) ∧ Pv H2 D (i + 1) acc H'', fun H'' p' => ⟨ds.length - (i + 1), by omega, rfl, p'.1, p'.2⟩, fun x H'' y => ?_⟩
    obtain ⟨s3, dx⟩ := it.yld i _ x H' H'' e r y
    refine mg _ _ _ _ _ (fun σ2 H3 k => ⟨k.1, mt _ _ _ _ (fun b H4 k2 => ?_) k.2⟩) (step H2 D i _ acc H' x H'' s2 hD e ea p s3 dx)
    cases b with
    | true =>
      have k2 := k2
      simp only [if_true] at k2 ⊢
      refine me _ _ _ _ (fun y H5 k3 => ?_) k2
      exact ⟨acc, k3.1, len100 (by omega), lt, _, by simp; omega, upd_same, k3.2⟩
    | false =>
      have k2 := k2
      simp only [Bool.false_eq_true, if_false] at k2 ⊢
      exact ⟨lt, acc, by omega, k2.1, k2.2⟩
  · have e : i = ds.length := by omega
    subst e
    exact .inl ⟨it.stop H' r, fin H2 D acc H' s2 hD ea p⟩
end
end KD

set_option maxRecDepth 100000
set_option maxHeartbeats 4000000
/-! len(set(t)) of a tuple of different texts. -/
namespace KD
open PySem PySem.Spec PyProof.Rows L2

section
variable {prog : Program} {w : World} {A : Around} {R : Result → Shared → Prop} {J : Addr} {fp wr : List Addr} {G : Array GenState → Array GenState → Prop} {n : Nat} {P : Nat → Value → Prop} {St : Nat → Shared → Prop}
/-- the update's loop, from the i-th key on; the keys are different -/
theorem set_loop (W : WalksS prog w A.in1 J fp wr G n P St) (D : Addr) (fresh : D ∉ fp) (ks : List Str) (len : ks.length = n) (few : n + 1 < scanBound) (nd : ks.Nodup)
    (key : ∀ i v, P i v → ∃ k t, ks[i]? = some k ∧ v = .str k t) : ∀ (m i : Nat) (s : Shared), n - i = m → i ≤ n → St i s →
      s.heap.SetOf (PySem.strKind prog w) D (fun k => decide (k ∈ ks.take i)) i →
      (∀ s', Moved (D :: wr) G s s' → s'.heap.SetOf (PySem.strKind prog w) D (fun k => decide (k ∈ ks)) n → R (.ok (.ret .none)) s') →
      codeAny (model prog w) A (.builtin "set.update.loop" ⟨[.ref D, .ref J], []⟩) R s := by
  have outW : D ∉ wr := fun h => fresh (W.sub _ h)
  have stay : ∀ {s s' : Shared} {F : Str → Bool} {c : Nat}, s.heap.SetOf (PySem.strKind prog w) D F c → Moved wr G s s' → s'.heap.SetOf (PySem.strKind prog w) D F c := fun {s s' F c} q hm => by
    obtain ⟨o, es, ep, tb, ho, more⟩ := q
    exact ⟨o, es, ep, tb, hm.heap D _ outW ho, more⟩
  intro m
  induction m with
  | zero =>
    intro i s em le st q fin
    obtain rfl : i = n := by omega
    refine codeAny_builtin PyProof.Rows.F.entry_set_update_loop ?_
    rw [Around.under_plainId PyProof.Rows.F.plain_set_update_loop _]
    refine wpAny_bind (W.done s _ _ st fun s' hm => wpAny_pure (fin s' (hm.mono fun b hb => List.mem_cons_of_mem _ hb) ?_))
    have z := stay q hm
    rwa [← len, List.take_length, len] at z
  | succ m ih =>
    intro i s em le st q fin
    have lt : i < n := by omega
    refine codeAny_builtin PyProof.Rows.F.entry_set_update_loop ?_
    rw [Around.under_plainId PyProof.Rows.F.plain_set_update_loop _]
    refine wpAny_bind (W.item i s _ _ lt st fun v s' hv st' hm => ?_)
    obtain ⟨k, t, hk, rfl⟩ := key i v hv
    have isK : (PySem.strKind prog w).is k (.str k t) = true := strKind_is _ _ _ _
    have notIn : k ∉ ks.take i := fun hin => by
      obtain ⟨j, hj⟩ := List.mem_iff_getElem?.mp hin
      rw [List.getElem?_take] at hj
      by_cases c : j < i
      · rw [if_pos c] at hj
        have hjl : j < ks.length := by omega
        have := (List.getElem?_inj hjl nd).mp (hj.trans hk.symm)
        omega
      · rw [if_neg c] at hj
        cases hj
    refine wpAny_bind (wpAny_holding ?_)
    unfold setAdd
    refine wpAny_holding (wpAny_bind ((PySem.strKind prog w).pyHash isK ?_))
    refine wpAny_setAddHashed_of (knd := PySem.strKind prog w) (s := { s' with toks := s'.toks + 1 }) isK rfl (show s'.heap.SetOf _ _ _ _ from stay q hm) (by omega) fun h' sb more => ?_
    have next : h'.SetOf (PySem.strKind prog w) D (fun k => decide (k ∈ ks.take (i + 1))) (i + 1) := by
      refine SetOf_congr more (fun k' => ?_) (by simp [notIn])
      rw [List.take_add_one, hk]
      by_cases e : k' = k <;> by_cases e2 : k' ∈ ks.take i <;> simp [e, e2]
    have off : ∀ b, b ∈ fp → b ≠ D := fun b hb e => fresh (e ▸ hb)
    refine wpAny_pure ⟨plainId_quiet PyProof.Rows.F.plain_set_update_loop _, ih (i + 1) _ (by omega) lt (W.frame _ s' _ _ st' (Nat.le_succ _) fun b hb o e => ?_) next fun s2 hm2 q2 => fin s2 ?_ q2⟩
    · exact (sb.2 b (off b hb)).trans e
    · refine Moved.trans W.gtrans ((hm.mono fun b hb => List.mem_cons_of_mem _ hb).then_heap (Nat.le_succ _) fun b o hb e => ?_) hm2
      exact (sb.2 b fun z => hb (z ▸ List.mem_cons_self)).trans e
end
section
variable {prog : Program} {w : World} {A : Around} {E : Value → Shared → Prop} {s : Shared}
theorem set_of_tuple {l : Addr} {items : Array Value} {ks : List Str} {Q : Value → Shared → Prop} (calm : A.handled = none) (tup : s.heap.IsTuple l items) (are : PyProof.Rows.StrsAre items.toList ks) (nd : ks.Nodup) (few : ks.length + 1 < scanBound)
    (h : ∀ (h' : Heap) (tk : Nat), h'.SetOf (PySem.strKind prog w) s.heap.objs.size (fun k => decide (k ∈ ks)) ks.length → (∀ b o, s.heap.get? b = some o → h'.get? b = some o) → Q (.ref s.heap.objs.size) { s with heap := h', toks := tk }) :
    wpAny (model prog w) A (call (.type "set") [.ref l]) Q E s := by
  have size : ks.length = items.size := by rw [← StrsAre.len_eq are, Array.length_toList]
  obtain ⟨c, tl, mro⟩ := PySem.F.called_set.mro
  have made := PySem.F.called_set.made
  have sub := PySem.F.called_set.sub
  have notType := PySem.F.called_set.notType
  have can := PySem.F.called_set.canCreate
  have tc := PySem.F.typeCall_set_1 (.ref l)
  refine wpAny_call (codeAny_of_tree (wpAny_pure ⟨Code.quiet_builtin _ (by decide +kernel), codeAny_builtin PySem.F.entry_type_call ?_⟩))
  rw [Around.under_plain (weight_type_call_type "set" [.ref l] []) rfl]
  repeat (any_goals (first | assumption | wp_step))
  generalize eD : s.heap.objs.size = D at h ⊢
  refine codeAny_mono (code_set_new_1 (.ref l) (E := E) (Q₁ := fun ob s1 => ∃ led : Bool, ob = .ref D ∧ s1 = { s with heap := s.heap.push { cls := .type "set", dict := none, data := .set #[] 0 (.fresh 0 0 led) } }) fun led => ⟨led, by rw [eD], rfl⟩) fun r s1 hr => ?_
  cases r with
  | error e => exact hr
  | ok fl =>
  cases fl with
  | ret ob =>
    obtain ⟨led, rfl, rfl⟩ := hr
    generalize eN : ({ cls := .type "set", dict := none, data := .set #[] 0 (.fresh 0 0 led) } : Obj) = N
    have atD : (s.heap.push N).get? D = some N := by
      rw [← eD]
      exact Heap.get?_push_size _ (by rw [← eN]; rfl)
    have isS : Shared.TypeIs { s with heap := s.heap.push N } (.ref D) "set" := ⟨_, atD, by rw [← eN]⟩
    have li := PySem.F.called_set.init.lookup
    have bi := PySem.F.called_set.init.bind (.ref D)
    repeat (any_goals (first | assumption | wp_step))
    refine codeAny_mono (codeAny_call_builtin (R := wants (fun r s2 => r = .none ∧ ∃ h' tk, s2 = { s with heap := h', toks := tk } ∧ h'.SetOf (PySem.strKind prog w) D (fun k => decide (k ∈ ks)) ks.length ∧ ∀ b o, s.heap.get? b = some o → h'.get? b = some o) E)
      PySem.F.called_set.init.plain PySem.F.entry_set_init (check_set_init_1 isS ?_)) fun r2 s2 hr2 => ?_
    · obtain ⟨⟨oc, od, oda, osl⟩, ho, hc, nl, hd⟩ := tup
      simp only at hc hd
      subst hc
      subst hd
      have ho1 : (s.heap.push N).get? l = some { cls := .type "tuple", dict := od, data := .seq items nl, slots := osl } := Heap.get?_push_of_some _ ho
      have tup1 : (s.heap.push N).IsTuple l items := ⟨_, ho1, rfl, nl, rfl⟩
      have ltl : l < D := by rw [← eD]; exact Heap.lt_size ho
      have sz1 : (s.heap.push N).objs.size = D + 1 := by rw [Heap.size_push, eD]
      have sTs := PySem.F.sub_tuple_set
      have sTf := PySem.F.sub_tuple_frozenset
      have ne : (Value.type "tuple" == Value.type "dict") = false := by decide
      have neI : l ≠ (s.heap.push N).objs.size := by rw [sz1]; exact Nat.ne_of_lt (Nat.lt_succ_of_lt ltl)
      have offD : D ∉ [(s.heap.push N).objs.size, l] := by
        rw [sz1]
        simp only [List.mem_cons, List.not_mem_nil, or_false, not_or]
        exact ⟨Nat.ne_of_lt (Nat.lt_succ_self _), Nat.ne_of_gt ltl⟩
      subst eN
      unfold Builtin.«set.__init__» noKeywords Builtin.Frozenset.updateFrom
      generalize hPI : pyIter = PI
      wp_walk
      subst hPI
      refine wpAny_pyIter_tuple tup1 ?_
      refine wpAny_bind (wpAny_runValue ?_)
      refine set_loop ((Walks.tuple (show A.in1.in1.in1.handled = none by simp [calm]) _ l neI items).toS) D offD ks size (by rw [← size]; exact few) nd (fun i v hv => ?_) (items.size - 0) 0 _ (by omega) (Nat.zero_le _) ⟨⟨_, Heap.get?_push_size _ rfl, rfl, rfl⟩, tup1.push _⟩ ?_ fun s' hm q => ?_
      · have hi : i < ks.length := by rw [size]; exact (Array.getElem?_eq_some_iff.mp hv).1
        obtain ⟨t, e⟩ := SS.strs_at are i v (by rw [Array.getElem?_toList]; exact hv)
        refine ⟨ks[i], t, List.getElem?_eq_getElem hi, ?_⟩
        rw [e, List.getD_eq_getElem?_getD, List.getElem?_eq_getElem hi]
        rfl
      · refine SetOf_congr ((PyProof.Rows.setObjOf_fresh (knd := PySem.strKind prog w) led).setOf ?_ (by unfold scanBound; omega)) (fun _ => by simp) rfl
        exact Heap.get?_push_of_some _ atD
      · obtain ⟨h', g', d', tk', os'⟩ := s'
        have e1 : g' = s.gens := hm.gens
        have e2 : d' = s.drawn := hm.drawn
        have e3 : os' = s.os := hm.os
        subst e1; subst e2; subst e3
        show wpAny _ _ _ _ _ _
        refine wpAny_pure ?_
        refine wpAny_pure ⟨rfl, h', tk', rfl, by rw [size]; exact q, fun b o e => ?_⟩
        have lt : b < D := by rw [← eD]; exact Heap.lt_size e
        refine hm.heap b o ?_ (Heap.get?_push_of_some _ (Heap.get?_push_of_some _ e))
        rw [sz1]
        simp only [List.mem_cons, List.not_mem_nil, or_false, not_or]
        exact ⟨Nat.ne_of_lt lt, Nat.ne_of_lt (Nat.lt_succ_of_lt lt)⟩
    · cases r2 with
      | error e2 => exact hr2
      | ok fl2 =>
      cases fl2 with
      | ret r =>
        obtain ⟨rfl, h', tk, rfl, q, old⟩ := hr2
        repeat (any_goals (first | assumption | wp_step))
        exact h _ _ q old
      | _ => exact hr2.elim
  | _ => exact hr.elim
end
/-- len(set(t)), t a tuple of different texts -/
def tLenSetS (K : PySem.W.Frag) (ta : TE) : TE := fun σ H Q => ta σ H fun x H1 => ∃ (l : Addr) (ks : List Str), x = .ref l ∧ SqT K H1 l (ks.map V.str) ∧ ks.Nodup ∧ ks.length ≤ 1000 ∧ Q (.int ks.length) H1
theorem pe_lenSetS {X : Cx} {a : Expr} {ta : TE} {p p2 q pos : Pos} (calm : X.calm = true) (hg : Gl X "len") (hm : X.mg "len" = none) (hg2 : Gl X "set") (hm2 : X.mg "set" = none) (ha : PE X a ta)
    (na : starEach [a] X.env = (false, eval a X.env) :: starEach [] X.env := by rfl) : PE X (.Call (.Name "len" p) [.Call (.Name "set" p2) [a] [] q] [] pos) (tLenSetS X.K ta) := ⟨fun pins s σ H Q I h => by
  refine Call_ (ld_blt I hg hm boot_len (PyProof.Rows.callWith_builtin1 (PyProof.Rows.args_cons ?_ rfl) rfl rfl))
  refine Call_ (ld_blt I hg2 hm2 boot_set (PyProof.Rows.callWith_type1 (PyProof.Rows.args_cons (thn (ha.run pins s σ H _ I h) fun v s1 k => PyProof.Rows.args_nil ?_) na) na rfl))
  obtain ⟨x, H1, I1, r1, l, ks, rfl, hl, nd, few, k⟩ := k
  cases r1
  obtain ⟨its, r, pl, _⟩ := I1.tuple hl
  refine set_of_tuple (I1.ok.hd calm) pl (by simpa using strsAre_of r) nd (by unfold scanBound; omega) fun h' tk hS old => PyProof.Rows.args_nil ?_
  obtain ⟨o, es, ep, t, ho, hex, hd, _, _, _, hf, hn⟩ := hS
  have I2 : Inv X pins σ H1 { s1 with heap := h', toks := tk } := I1.kept fun b o e => old b o e
  exact call_len_set ho hex hd hf (by rw [hn]; omega) ⟨.int ks.length, H1, I2.tok _, ⟨_, by rw [hn]⟩, k⟩⟩
end KD

set_option maxRecDepth 100000
set_option maxHeartbeats 2000000
/-! Keys of dicts that are tuples of data, nested: hash, ==, the kind. -/
namespace KD
open PySem PySem.Spec PyProof.Rows L2
open Sem (wp)

mutual
/-- None, ints, texts, tuples of them, nested to n at most -/
def keyable : Nat → PyData → Bool
  | _, .none => true
  | _, .int _ => true
  | _, .str x => PyData.canLay0 (.str x)
  | 0, .tuple _ => false
  | n + 1, .tuple ds => keyableAll n ds
  | _, _ => false
def keyableAll : Nat → List PyData → Bool
  | _, [] => true
  | n, d :: ds => keyable n d && keyableAll n ds
end
mutual
def hashD (w : World) : PyData → Int
  | .none => reduceHash 0xFCA86420
  | .int i => hashInt i
  | .str x => hashStr w x
  | .tuple ds => reduceHash (Builtin.Tuple.tupleHashOf (hashAll w ds))
  | _ => 0
def hashAll (w : World) : List PyData → List Int
  | [] => []
  | d :: ds => hashD w d :: hashAll w ds
end
mutual
def drawsD : PyData → Nat
  | .tuple ds => drawsAll ds + 1
  | _ => 1
def drawsAll : List PyData → Nat
  | [] => 0
  | d :: ds => drawsD d + drawsAll ds
end
theorem hashAll_append (w : World) : ∀ (xs ys : List PyData), hashAll w (xs ++ ys) = hashAll w xs ++ hashAll w ys
  | [], _ => by simp [hashAll]
  | x :: xs, ys => by simp [hashAll, hashAll_append w xs ys]
theorem drawsAll_append : ∀ (xs ys : List PyData), drawsAll (xs ++ ys) = drawsAll xs + drawsAll ys
  | [], _ => by simp [drawsAll]
  | x :: xs, ys => by
    have := drawsAll_append xs ys
    simp only [List.cons_append, drawsAll]
    omega
theorem keyableAll_mem {n : Nat} : ∀ {ds : List PyData}, keyableAll n ds = true → ∀ d ∈ ds, keyable n d = true
  | [], _, d, hd => by simp at hd
  | x :: xs, h, d, hd => by
    simp only [keyableAll, Bool.and_eq_true] at h
    rcases List.mem_cons.mp hd with rfl | hd
    · exact h.1
    · exact keyableAll_mem h.2 d hd

section
variable {prog : Program} {w : World} {A : Around} {E : Value → Shared → Prop} {s : Shared}
theorem pyHash_tuple_of {n : Nat} (ih : ∀ (d : PyData) (A : Around) (E : Value → Shared → Prop) (s : Shared) (v : Value) (as : List Addr) (Q : Int → Shared → Prop), keyable n d = true → A.units + n < cLine → Reads s.heap v d as →
      Q (hashD w d) { s with toks := s.toks + drawsD d } → wpAny (model prog w) A (pyHash v) Q E s)
    {ds : List PyData} {a : Addr} {as : List Addr} {Q : Int → Shared → Prop} (hk : keyableAll n ds = true) (hu : A.units + (n + 1) < cLine) (hr : Reads s.heap (.ref a) (.tuple ds) as)
    (q : Q (hashD w (.tuple ds)) { s with toks := s.toks + drawsD (.tuple ds) }) : wpAny (model prog w) A (pyHash (.ref a)) Q E s := by
  cases hr with
  | @tuple _ o vs m _ _ ho hc hd hitems =>
  have ty : s.TypeIs (.ref a) "tuple" := ⟨o, ho, hc⟩
  unfold pyHash
  first | unfold pyHashByItsType | skip
  first | refine wpAny_bind (wpAny_cRoomFor_or (.inr (show A.units < cLine by omega)) ?_) | skip
  refine wpAny_bind (wpAny_specialOf ty F.slot_tuple_hash.lookup ?_)
  show wpAny _ _ (if (some (Value.builtin "tuple.__hash__") == some Value.none) = true then _ else _) Q E s
  rw [if_neg (by rw [beq_builtin_none]; exact Bool.false_ne_true)]
  refine wpAny_bind (wpAny_specialOf ty F.slot_tuple_hash.lookup (wpAny_bind (wpAny_callSpecialIfBoundUnlessNone?_slot ty F.slot_tuple_hash (wpAny_call_entry F.slot_tuple_hash ty F.entry_tuple_hash ?_ (F.args_tuple_hash_1 _)))))
  show wpAny _ _ (Builtin.Tuple.tupleItemsOf (.ref a) >>= _) _ _ s
  refine wpAny_bind (wpAny_tupleItemsOf ho hd (wpAny_bind ?_))
  rw [← Array.forIn_toList]
  refine wpAny_forIn_list _ (fun left (b : Array Int) s' => ∃ xs ys bs, ds = xs ++ ys ∧ ReadsAll s.heap left ys bs ∧ b.toList = hashAll w xs ∧ s' = { s with toks := s.toks + drawsAll xs }) _ ?_ ?_ _ _ ⟨[], ds, _, rfl, hitems, by simp [hashAll], by simp [drawsAll]⟩
  · rintro x left b s' ⟨xs, ys, bs, rfl, hl, hb, rfl⟩
    cases hl with
    | @cons _ _ d ys' as' bs' h1 h2 =>
      have kd : keyable n d = true := keyableAll_mem hk d (by simp)
      refine wpAny_bind (ih d _ _ { s with toks := s.toks + drawsAll xs } x _ _ kd ?_ h1 ?_)
      · first | (show A.units + n < cLine; omega) | (show A.units + 1 + n < cLine; omega)
      · have fin : ∃ xs' ys bs, xs ++ d :: ys' = xs' ++ ys ∧ ReadsAll s.heap left ys bs ∧ (b.push (hashD w d)).toList = hashAll w xs' ∧ ({ s with toks := s.toks + drawsAll xs + drawsD d } : Shared) = { s with toks := s.toks + drawsAll xs' } :=
          ⟨xs ++ [d], ys', bs', by simp, h2, by rw [Array.toList_push, hb, hashAll_append]; simp [hashAll], by rw [drawsAll_append]; simp [drawsAll, Nat.add_assoc]⟩
        first
          | exact wpAny_pure fin
          | exact wpAny_bind (wpAny_pure (wpAny_pure fin))
  · rintro b s' ⟨xs, ys, bs, e, hl, hb, rfl⟩
    cases hl
    rw [List.append_nil] at e
    subst e
    show wpAny _ _ (retInt (Builtin.Tuple.tupleHashOf b.toList)) _ _ _
    rw [hb]
    refine wpAny_ret_mkInt ?_
    show wpAny _ _ (if (decide (-(2 : Int) ^ 63 ≤ Builtin.Tuple.tupleHashOf (hashAll w ds)) && decide (Builtin.Tuple.tupleHashOf (hashAll w ds) < 2 ^ 63)) = true then _ else _) Q E _
    simp only [hashD, drawsD, reduceHash] at q
    by_cases hr : (decide (-(2 : Int) ^ 63 ≤ Builtin.Tuple.tupleHashOf (hashAll w ds)) && decide (Builtin.Tuple.tupleHashOf (hashAll w ds) < 2 ^ 63)) = true
    · rw [if_pos hr]
      rw [if_pos hr] at q
      exact wpAny_pure (by simpa [Nat.add_assoc] using q)
    · rw [if_neg hr]
      rw [if_neg hr] at q
      exact wpAny_bind (wpAny_rule (wpAny_pure (by simpa [Nat.add_assoc] using q)))
end
theorem pyHash_data {prog : Program} {w : World} : ∀ (n : Nat) (d : PyData) (A : Around) (E : Value → Shared → Prop) (s : Shared) (v : Value) (as : List Addr) (Q : Int → Shared → Prop), keyable n d = true → A.units + n < cLine → Reads s.heap v d as →
    Q (hashD w d) { s with toks := s.toks + drawsD d } → wpAny (model prog w) A (pyHash v) Q E s := by
  intro n
  induction n with
  | zero =>
    intro d A E s v as Q hk hu hr q
    cases hr with
    | none => exact (noneKind prog w).pyHash (k := none) (show (noneKind prog w).is none .none = true from rfl) (by simp only [hashD, drawsD] at q; exact q)
    | int i t => exact wpAny_pyHash_int (by simpa [hashD, drawsD] using q)
    | str x t => exact wpAny_pyHash_str (by simpa [hashD, drawsD] using q)
    | tuple => simp [keyable] at hk
    | bool => simp [keyable] at hk
    | list => simp [keyable] at hk
    | dict => simp [keyable] at hk
  | succ n ih =>
    intro d A E s v as Q hk hu hr q
    cases d with
    | none =>
      cases hr
      exact (noneKind prog w).pyHash (k := none) (show (noneKind prog w).is none .none = true from rfl) (by simp only [hashD, drawsD] at q; exact q)
    | int i =>
      cases hr
      exact wpAny_pyHash_int (by simpa [hashD, drawsD] using q)
    | str x =>
      cases hr
      exact wpAny_pyHash_str (by simpa [hashD, drawsD] using q)
    | tuple ds =>
      obtain ⟨a, rfl⟩ : ∃ a, v = .ref a := by cases hr; exact ⟨_, rfl⟩
      exact pyHash_tuple_of ih (by simpa [keyable] using hk) hu hr q
    | bool b => simp [keyable] at hk
    | list ds => simp [keyable] at hk
    | dict ds => simp [keyable] at hk
mutual
theorem keyable_nob : ∀ (n : Nat) (d : PyData), keyable n d = true → d.canLay0 = true ∧ d.depth ≤ n
  | _, .none, _ => by simp [PyData.canLay0, PyData.depth]
  | _, .int _, _ => by simp [PyData.canLay0, PyData.depth]
  | n, .str x, h => by
    refine ⟨?_, by simp [PyData.depth]⟩
    cases n <;> simpa [keyable] using h
  | 0, .tuple _, h => by simp [keyable] at h
  | n + 1, .tuple ds, h => by
    have k := keyableAll_nob n ds (by simpa [keyable] using h)
    simp only [PyData.canLay0, PyData.depth]
    exact ⟨k.1, by omega⟩
  | n, .bool _, h => by cases n <;> simp [keyable] at h
  | n, .list _, h => by cases n <;> simp [keyable] at h
  | n, .dict _, h => by cases n <;> simp [keyable] at h
theorem keyableAll_nob : ∀ (n : Nat) (ds : List PyData), keyableAll n ds = true → PyData.canLayAll0 ds = true ∧ PyData.depthAll ds ≤ n
  | _, [], _ => by simp [PyData.canLayAll0, PyData.depthAll]
  | n, d :: ds, h => by
    simp only [keyableAll, Bool.and_eq_true] at h
    have k1 := keyable_nob n d h.1
    have k2 := keyableAll_nob n ds h.2
    simp only [PyData.canLayAll0, PyData.depthAll, Bool.and_eq_true]
    exact ⟨⟨k1.1, k2.1⟩, by omega⟩
end

noncomputable instance decData : DecidableEq PyData := fun a b => Classical.propDecidable (a = b)
mutual
/-- no bools, no lists in what may be a key -/
theorem keyable_eqv : ∀ (n m : Nat) (d e : PyData), keyable n d = true → keyable m e = true → (PyData.eqv d e = true ↔ d = e)
  | n, m, .none, e, _, h => by cases e <;> simp [PyData.eqv]
  | n, m, .int i, e, _, h => by
    cases e with
    | bool b => cases m <;> simp [keyable] at h
    | _ => simp [PyData.eqv]
  | n, m, .str x, e, _, h => by cases e <;> simp [PyData.eqv]
  | 0, m, .tuple _, e, h, _ => by simp [keyable] at h
  | n + 1, 0, .tuple _, .tuple _, _, h => by simp [keyable] at h
  | n + 1, m + 1, .tuple xs, .tuple ys, h1, h2 => by
    simp only [PyData.eqv, PyData.tuple.injEq]
    exact keyableAll_eqv n m xs ys (by simpa [keyable] using h1) (by simpa [keyable] using h2)
  | n + 1, m, .tuple xs, .none, _, _ => by simp [PyData.eqv]
  | n + 1, m, .tuple xs, .bool _, _, _ => by simp [PyData.eqv]
  | n + 1, m, .tuple xs, .int _, _, _ => by simp [PyData.eqv]
  | n + 1, m, .tuple xs, .str _, _, _ => by simp [PyData.eqv]
  | n + 1, m, .tuple xs, .list _, _, _ => by simp [PyData.eqv]
  | n + 1, m, .tuple xs, .dict _, _, _ => by simp [PyData.eqv]
  | n, m, .bool _, _, h, _ => by cases n <;> simp [keyable] at h
  | n, m, .list _, _, h, _ => by cases n <;> simp [keyable] at h
  | n, m, .dict _, _, h, _ => by cases n <;> simp [keyable] at h
theorem keyableAll_eqv : ∀ (n m : Nat) (xs ys : List PyData), keyableAll n xs = true → keyableAll m ys = true → (PyData.eqvAll xs ys = true ↔ xs = ys)
  | _, _, [], [], _, _ => by simp [PyData.eqvAll]
  | _, _, [], _ :: _, _, _ => by simp [PyData.eqvAll]
  | _, _, _ :: _, [], _, _ => by simp [PyData.eqvAll]
  | n, m, x :: xs, y :: ys, h1, h2 => by
    simp only [keyableAll, Bool.and_eq_true] at h1 h2
    simp only [PyData.eqvAll, Bool.and_eq_true, List.cons.injEq]
    rw [keyable_eqv n m x y h1.1 h2.1, keyableAll_eqv n m xs ys h1.2 h2.2]
end
theorem quiet_data {prog : Program} {w : World} : ∀ (n : Nat) (d : PyData) (A : Around) (E : Value → Shared → Prop) (s : Shared) (v : Value) (as : List Addr) (Q : Bool → Shared → Prop), keyable n d = true → Reads s.heap v d as →
    Q true s → wpAny (model prog w) A (eqIsQuiet n v) Q E s := by
  intro n
  induction n with
  | zero =>
    intro d A E s v as Q hk hr q
    have flat : carriedByValue v = true := by
      cases hr with
      | tuple => simp [keyable] at hk
      | list => simp [keyable] at hk
      | dict => simp [keyable] at hk
      | _ => rfl
    rw [eqIsQuiet_byValue _ flat]
    exact wpAny_pure q
  | succ n ih =>
    intro d A E s v as Q hk hr q
    cases hr with
    | @tuple a o vs m ds _ ho hc hd hitems =>
      have ty : s.TypeIs (.ref a) "tuple" := ⟨o, ho, hc⟩
      have hk' : keyableAll n ds = true := by simpa [keyable] using hk
      unfold eqIsQuiet
      refine wpAny_bind (wpAny_specialOf ty F.slot_tuple_eq.lookup ?_)
      show wpAny _ _ (isInstance (.ref a) (.type "tuple") >>= _) _ _ s
      refine wpAny_bind (wpAny_isInstance ty isSubtype_tuple_tuple ?_)
      simp only [Bool.not_true, Bool.false_eq_true, if_false]
      refine wpAny_bind (wpAny_seqItems ho hd (wpAny_bind ?_))
      show wpAny _ _ (forIn vs _ _) _ _ s
      rw [← Array.forIn_toList]
      refine wpAny_forIn_list _ (fun left r s' => r.1 = none ∧ s' = s ∧ ∃ xs ys bs, ds = xs ++ ys ∧ ReadsAll s.heap left ys bs) _ ?_ ?_ _ _ ⟨rfl, rfl, [], ds, _, rfl, hitems⟩
      · rintro x left r s' ⟨hr, rfl, xs, ys, bs, rfl, hl⟩
        cases hl with
        | @cons _ _ d ys' as' bs' h1 h2 =>
          refine wpAny_bind (ih d _ _ s' x _ _ (keyableAll_mem hk' d (by simp)) h1 ?_)
          simp only [Bool.not_true, Bool.false_eq_true, if_false]
          exact wpAny_pure ⟨rfl, rfl, xs ++ [d], ys', bs', by simp, h2⟩
      · rintro ⟨r1, r2⟩ s' ⟨hr, rfl, _⟩
        simp only at hr
        subst hr
        exact wpAny_pure q
    | list => simp [keyable] at hk
    | dict => simp [keyable] at hk
    | none => rw [eqIsQuiet_byValue _ rfl]; exact wpAny_pure q
    | bool => simp [keyable] at hk
    | int => rw [eqIsQuiet_byValue _ rfl]; exact wpAny_pure q
    | str => rw [eqIsQuiet_byValue _ rfl]; exact wpAny_pure q
mutual
/-- what is read of a key stays, whatever else becomes of a dict -/
theorem reads_keep {h h' : Heap} (k : ∀ b o vs n, h.get? b = some o → o.data = .seq vs n → h'.get? b = some o) : ∀ (n : Nat) (d : PyData) (v : Value) (as : List Addr), keyable n d = true → Reads h v d as → Reads h' v d as
  | _, .none, _, _, _, hr => by cases hr; exact .none
  | _, .int i, _, _, _, hr => by cases hr; exact .int _ _
  | _, .str x, _, _, _, hr => by cases hr; exact .str _ _
  | 0, .tuple _, _, _, hk, _ => by simp [keyable] at hk
  | n + 1, .tuple ds, _, _, hk, hr => by
    cases hr with
    | tuple ho hc hd hi => exact .tuple (k _ _ _ _ ho hd) hc hd (readsAll_keep k n ds _ _ (by simpa [keyable] using hk) hi)
  | n, .bool _, _, _, hk, _ => by cases n <;> simp [keyable] at hk
  | n, .list _, _, _, hk, _ => by cases n <;> simp [keyable] at hk
  | n, .dict _, _, _, hk, _ => by cases n <;> simp [keyable] at hk
theorem readsAll_keep {h h' : Heap} (k : ∀ b o vs n, h.get? b = some o → o.data = .seq vs n → h'.get? b = some o) : ∀ (n : Nat) (ds : List PyData) (vs : List Value) (as : List Addr), keyableAll n ds = true → ReadsAll h vs ds as → ReadsAll h' vs ds as
  | _, [], _, _, _, hr => by cases hr; exact .nil
  | n, d :: ds, _, _, hk, hr => by
    simp only [keyableAll, Bool.and_eq_true] at hk
    cases hr with
    | cons h1 h2 => exact .cons (reads_keep k n d _ _ hk.1 h1) (readsAll_keep k n ds _ _ hk.2 h2)
end
mutual
theorem reads_inj {h : Heap} : ∀ (d e : PyData) (v : Value) (as bs : List Addr), Reads h v d as → Reads h v e bs → (∃ n, keyable n d = true) → d = e
  | .none, e, _, _, _, h1, h2, _ => by cases h1; cases h2; rfl
  | .int i, e, _, _, _, h1, h2, _ => by cases h1; cases h2; rfl
  | .str i, e, _, _, _, h1, h2, _ => by cases h1; cases h2; rfl
  | .bool i, e, _, _, _, h1, h2, _ => by cases h1; cases h2; rfl
  | .tuple ds, e, _, _, _, h1, h2, ⟨n, hk⟩ => by
    cases h1 with
    | tuple ho hc hd hi =>
      have hk' : ∃ n, keyableAll n ds = true := by
        cases n with
        | zero => simp [keyable] at hk
        | succ n => exact ⟨n, by simpa [keyable] using hk⟩
      cases h2 with
      | tuple ho' hc' hd' hi' =>
        rw [ho] at ho'; cases ho'
        rw [hd] at hd'; cases hd'
        rw [readsAll_inj ds _ _ _ _ hi hi' hk']
      | list ho' hc' hd' hi' => rw [ho] at ho'; cases ho'; rw [hc] at hc'; simp at hc'
      | dict ho' hc' hd' hi' => rw [ho] at ho'; cases ho'; rw [hc] at hc'; simp at hc'
  | .list ds, _, _, _, _, _, _, ⟨n, hk⟩ => by cases n <;> simp [keyable] at hk
  | .dict ds, _, _, _, _, _, _, ⟨n, hk⟩ => by cases n <;> simp [keyable] at hk
theorem readsAll_inj {h : Heap} : ∀ (ds es : List PyData) (vs : List Value) (as bs : List Addr), ReadsAll h vs ds as → ReadsAll h vs es bs → (∃ n, keyableAll n ds = true) → ds = es
  | [], _, _, _, _, h1, h2, _ => by cases h1; cases h2; rfl
  | d :: ds, _, _, _, _, h1, h2, ⟨n, hk⟩ => by
    simp only [keyableAll, Bool.and_eq_true] at hk
    cases h1 with
    | cons a1 b1 =>
      cases h2 with
      | cons a2 b2 => rw [reads_inj d _ _ _ _ a1 a2 ⟨n, hk.1⟩, readsAll_inj ds _ _ _ _ b1 b2 ⟨n, hk.2⟩]
end
/-- tuples as keys -/
def KeyAt (h : Heap) (d : PyData) (a : Addr) : Prop := keyable 8 d = true ∧ ∃ as, Reads h (.ref a) d as
noncomputable def dataKind (prog : Program) (w : World) : HeapKind prog w PyData where
  is := KeyAt
  hash := hashD w
  draws := drawsD
  room := fun A => A.units + 8 < cLine
  inj := fun ⟨h1, as, r1⟩ ⟨h2, bs, r2⟩ => reads_inj _ _ _ _ _ r1 r2 ⟨8, h1⟩
  keeps := fun {h h' k a d o es ep} ⟨h1, as, r1⟩ ho hd sb => ⟨h1, as, reads_keep (fun b ob vs n e c => by
    by_cases z : b = d
    · subst z
      rw [ho] at e
      cases e
      rw [hd] at c
      cases c
    · exact (sb.2 b z).trans e) 8 k _ _ h1 r1⟩
  pyHash := fun hu ⟨h1, as, r1⟩ q => pyHash_data 8 _ _ _ _ _ _ _ h1 hu r1 q
  eqBool := fun {A E s x y a b Q} hu ⟨h1, as, r1⟩ ⟨h2, bs, r2⟩ q => by
    have k1 := keyable_nob 8 _ h1
    have k2 := keyable_nob 8 _ h2
    have e := SeqAt.eqAt_reads x y A s _ _ _ _ r1 r2 k1.1 k2.1 (by have := k1.2; omega)
    refine e _ _ _ _ ?_
    have : PyData.eqv x y = decide (x = y) := by
      rw [Bool.eq_iff_iff, decide_eq_true_eq]
      exact keyable_eqv 8 8 x y h1 h2
    rw [this]
    exact q
  quiet := fun ⟨h1, as, r1⟩ q => quiet_data 8 _ _ _ _ _ _ _ h1 r1 q
end KD

set_option maxRecDepth 100000
set_option maxHeartbeats 2000000
/-! Dicts that number their keys: d.setdefault(key, len(d)). -/
namespace KD
open PySem PySem.Spec PyProof.Rows L2

/-- the dict at a numbers the keys ks (None, ints, texts) -/
def NumN (P : Program) (w : World) (a : Addr) (ks : List (Option Key)) : HO := .ext fun h => (a == sysModules) = false ∧ ks.length ≤ sizeLine ∧
  ∃ vs : List (Option Key × Value), h.DictOf (noneKind P w) a vs ∧ vs.map (·.1) = ks ∧ ∀ i k v, vs[i]? = some (k, v) → ∃ t : Tok, v = Value.int (i : Nat) t
/-- the dict at a numbers the keys ks (tuples of data, each at its address) -/
def NumT (P : Program) (w : World) (a : Addr) (ks : List (PyData × Addr)) : HO := .ext fun h => (a == sysModules) = false ∧ ks.length ≤ sizeLine ∧
  ∃ ys : List (PyData × Addr × Value), ys.map (fun y => (y.1, y.2.1)) = ks ∧ (∀ i d b v, ys[i]? = some (d, b, v) → ∃ t : Tok, v = Value.int (i : Nat) t) ∧ (ks.map (·.1)).Nodup ∧
    ∃ o es ep, h.get? a = some o ∧ o.ExactDict ∧ o.data = .dict es ep ∧ es.toList = ys.map (entryOfKey (dataKind P w))
def nV : Option Key → V
  | none => .non
  | some k => kV k
section
variable {P : Program} {w : World} {H : Hp} {h : Heap} {a : Addr}
theorem numN_ok {ks : List (Option Key)} {vs : List (Option Key × Value)} (h1 : (a == sysModules) = false) (h2 : ks.length ≤ sizeLine) (h3 : h.DictOf (noneKind P w) a vs) (h4 : vs.map (·.1) = ks) (h5 : ∀ i k v, vs[i]? = some (k, v) → ∃ t : Tok, v = Value.int (i : Nat) t) :
    ObjOk P w H h a (NumN P w a ks) := by
  have ⟨o, _, _, ho, _⟩ := h3
  refine ⟨⟨h1, h2, vs, h3, h4, h5⟩, ⟨o, ho⟩, fun h1 h2 p k => ?_⟩
  obtain ⟨a1, a2, vs, ⟨o, es, ep, e, r⟩, a4⟩ := p
  exact ⟨a1, a2, vs, ⟨o, es, ep, k o e, r⟩, a4⟩
theorem numT_ok {ks : List (PyData × Addr)} {ys : List (PyData × Addr × Value)} (h1 : (a == sysModules) = false) (h2 : ks.length ≤ sizeLine) (h4 : ys.map (fun y => (y.1, y.2.1)) = ks) (h5 : ∀ i d b v, ys[i]? = some (d, b, v) → ∃ t : Tok, v = Value.int (i : Nat) t)
    (h6 : (ks.map (·.1)).Nodup) (h3 : ∃ o es ep, h.get? a = some o ∧ o.ExactDict ∧ o.data = .dict es ep ∧ es.toList = ys.map (entryOfKey (dataKind P w))) : ObjOk P w H h a (NumT P w a ks) := by
  have ⟨o, _, _, ho, _⟩ := h3
  refine ⟨⟨h1, h2, ys, h4, h5, h6, h3⟩, ⟨o, ho⟩, fun h1 h2 p k => ?_⟩
  obtain ⟨a1, a2, ys, a4, a5, a6, o, es, ep, e, r⟩ := p
  exact ⟨a1, a2, ys, a4, a5, a6, o, es, ep, k o e, r⟩
end
def tDNewN (P : Program) (w : World) : TE := fun _ H Q => ∀ p, H p = none → Q (.ref p) (upd H p (NumN P w p []))
def tDNewH (P : Program) (w : World) : TE := fun _ H Q => ∀ p, H p = none → Q (.ref p) (upd H p (NumT P w p []))
section
variable {X : Cx} {pos : Pos}

theorem pe_dnewN : PE X (.Dict [] [] pos) (tDNewN X.prog X.w) := ⟨fun pins s σ H Q I h =>
  wpAny_Dict_empty ⟨.ref s.heap.objs.size, _, I.laid (a := s.heap.objs.size) (o := NumN X.prog X.w s.heap.objs.size []) (t' := s.toks) (fun _ _ q => Heap.get?_push_of_some _ q) (Nat.le_refl _)
    (numN_ok (vs := []) (beq_eq_false_iff_ne.mpr (Ne.symm (Nat.ne_of_lt I.big))) (Nat.zero_le _) (Heap.DictOf.new s.heap) rfl fun i k v e => by simp at e), rfl, h _ (I.hok.fresh (Nat.le_refl _))⟩⟩
theorem pe_dnewH : PE X (.Dict [] [] pos) (tDNewH X.prog X.w) := ⟨fun pins s σ H Q I h =>
  wpAny_Dict_empty ⟨.ref s.heap.objs.size, _, I.laid (a := s.heap.objs.size) (o := NumT X.prog X.w s.heap.objs.size []) (t' := s.toks) (fun _ _ q => Heap.get?_push_of_some _ q) (Nat.le_refl _)
    (numT_ok (ys := []) (beq_eq_false_iff_ne.mpr (Ne.symm (Nat.ne_of_lt I.big))) (Nat.zero_le _) rfl (fun i d b v e => by simp at e) List.nodup_nil ⟨_, #[], 0, Heap.get?_push_size _ rfl, ⟨rfl, rfl, rfl⟩, rfl, rfl⟩), rfl, h _ (I.hok.fresh (Nat.le_refl _))⟩⟩
def rLenN (P : Program) (w : World) : List V → Hp → VK → Prop := fun xs H Q => ∃ a ks, xs = [V.ref a] ∧ H a = some (NumN P w a ks) ∧ Q (.int (ks.length : Nat)) H
def rLenH (K : PySem.W.Frag) (P : Program) (w : World) : List V → Hp → VK → Prop := fun xs H Q => ∃ a ks, xs = [V.ref a] ∧ H a = some (NumT P w a ks) ∧ (∀ x ∈ ks, Dq K H (.ref x.2) x.1 ∧ keyable 8 x.1 = true) ∧ Q (.int (ks.length : Nat)) H
theorem kLenN : CallR X (.builtin "len") (rLenN X.prog X.w) := by
  intro pins s σ H xs us Q I r h
  obtain ⟨a, ks, rfl, ha, q⟩ := h
  obtain ⟨u, rfl, ru⟩ := vals1 r
  cases ru
  obtain ⟨⟨h1, h2, vs, h3, h4, h5⟩, _⟩ := (show ObjOk X.prog X.w H s.heap a (NumN X.prog X.w a ks) from I.hok a _ ha)
  have hl : vs.length = ks.length := by rw [← h4, List.length_map]
  refine call_len_dict h1 h3 (by rw [hl]; rw [sizeLine_eq] at h2; omega) ?_
  rw [hl]
  exact ⟨.int (ks.length : Nat), H, I.tok _, ⟨_, rfl⟩, q⟩
theorem keyable_flat : ∀ (n : Nat) (d : PyData), keyable n d = true → flatD d = true := by
  intro n
  induction n with
  | zero => intro d h; cases d <;> first | rfl | simp [keyable] at h
  | succ n ih =>
    intro d h
    cases d with
    | tuple ds =>
      simp only [flatD]
      have hk : keyableAll n ds = true := by simpa [keyable] using h
      clear h
      induction ds with
      | nil => rfl
      | cons d ds k =>
        simp only [keyableAll, Bool.and_eq_true] at hk
        simp only [flatAll, Bool.and_eq_true]
        exact ⟨ih d hk.1, k hk.2⟩
    | none => rfl
    | int => rfl
    | str => rfl
    | bool => simp [keyable] at h
    | list => simp [keyable] at h
    | dict => simp [keyable] at h
theorem keyAt_of {pins : List (Addr × Obj)} {σ : L2.St} {H : Hp} {s : Shared} (I : Inv X pins σ H s) {b : Addr} {d : PyData} (h : Dq X.K H (.ref b) d) (k : keyable 8 d = true) : KeyAt s.heap d b := by
  obtain ⟨as, r⟩ := Dp.reads I d _ (.ref b) (dq_dp d _ (keyable_flat 8 d k) h) rfl
  exact ⟨k, as, r⟩
theorem dictH_of {pins : List (Addr × Obj)} {σ : L2.St} {H : Hp} {s : Shared} {a : Addr} {ks : List (PyData × Addr)} (I : Inv X pins σ H s) (ha : H a = some (NumT X.prog X.w a ks)) (hk : ∀ x ∈ ks, Dq X.K H (.ref x.2) x.1 ∧ keyable 8 x.1 = true) :
    (a == sysModules) = false ∧ ks.length ≤ sizeLine ∧ (ks.map (·.1)).Nodup ∧ ∃ ys : List (PyData × Addr × Value), ys.map (fun y => (y.1, y.2.1)) = ks ∧ (∀ i d b v, ys[i]? = some (d, b, v) → ∃ t : Tok, v = Value.int (i : Nat) t) ∧ s.heap.DictOfH (dataKind X.prog X.w) a ys := by
  obtain ⟨⟨h1, h2, ys, h4, h5, h6, o, es, ep, e1, e2, e3, e4⟩, _⟩ := (show ObjOk X.prog X.w H s.heap a (NumT X.prog X.w a ks) from I.hok a _ ha)
  refine ⟨h1, h2, h6, ys, h4, h5, o, es, ep, e1, e2, e3, e4, fun y hy => ?_, ?_⟩
  · have : (y.1, y.2.1) ∈ ks := by rw [← h4]; exact List.mem_map.mpr ⟨y, hy, rfl⟩
    obtain ⟨k1, k2⟩ := hk _ this
    exact keyAt_of I k1 k2
  · rw [← h4, List.map_map] at h6
    exact h6
theorem kLenH {K : PySem.W.Frag} (hK : X.K = K := by rfl) : CallR X (.builtin "len") (rLenH K X.prog X.w) := by
  subst hK
  intro pins s σ H xs us Q I r h
  obtain ⟨a, ks, rfl, ha, hk, q⟩ := h
  obtain ⟨u, rfl, ru⟩ := vals1 r
  cases ru
  obtain ⟨h1, h2, h6, ys, h4, h5, dd⟩ := dictH_of I ha hk
  have hl : ys.length = ks.length := by rw [← h4, List.length_map]
  refine call_len_dictH h1 dd (by rw [hl]; rw [sizeLine_eq] at h2; omega) ?_
  rw [hl]
  exact ⟨.int (ks.length : Nat), H, I.tok _, ⟨_, rfl⟩, q⟩

def idxG {κ : Type} [DecidableEq κ] (l : List κ) (k : κ) : Nat := l.idxOf k
/-- d.setdefault(k, n), n the number of keys so far -/
def tSetN (P : Program) (w : World) (td ty tx : TE) : TE := fun σ H Q => td σ H fun x H1 => ∃ a ks0, x = .ref a ∧ H1 a = some (NumN P w a ks0) ∧ ty σ H1 fun y H2 => tx σ H2 fun z H3 =>
  ∃ (ks : List (Option Key)) (k : Option Key), H3 a = some (NumN P w a ks) ∧ y = nV k ∧ z = .int (ks.length : Nat) ∧ ks.length < sizeLine ∧ (k ∈ ks → Q (.int (idxG ks k : Nat)) H3) ∧ (k ∉ ks → Q z (upd H3 a (NumN P w a (ks ++ [k]))))
def tSetH (K : PySem.W.Frag) (P : Program) (w : World) (td ty tx : TE) : TE := fun σ H Q => td σ H fun x H1 => ∃ a ks0, x = .ref a ∧ H1 a = some (NumT P w a ks0) ∧ ty σ H1 fun y H2 => tx σ H2 fun z H3 =>
  ∃ (ks : List (PyData × Addr)) (d : PyData) (b : Addr), H3 a = some (NumT P w a ks) ∧ (∀ x ∈ ks, Dq K H3 (.ref x.2) x.1 ∧ keyable 8 x.1 = true) ∧ y = .ref b ∧ Dq K H3 (.ref b) d ∧ keyable 8 d = true ∧ z = .int (ks.length : Nat) ∧ ks.length < sizeLine ∧
    (d ∈ ks.map (·.1) → Q (.int (idxG (ks.map (·.1)) d : Nat)) H3) ∧ (d ∉ ks.map (·.1) → Q z (upd H3 a (NumT P w a (ks ++ [(d, b)]))))
theorem nV_is {k : Option Key} {u : Value} (r : RelV (nV k) u) {P : Program} {w : World} : (noneKind P w).is k u = true := by
  cases k with
  | none => cases (show u = Value.none from r); rfl
  | some k => exact kV_is (P := P) (w := w) r
theorem tracked_ext {a : Addr} {φ : Heap → Prop} {H : Hp} (ha : H a = some (.ext φ)) : Mut (H a) := by rw [ha]; trivial
theorem idx_of_get {α : Type} [DecidableEq α] {l : List α} (nd : l.Nodup) {i : Nat} {x : α} (h : l[i]? = some x) : idxG l x = i := by
  unfold idxG
  obtain ⟨hi, e⟩ := List.getElem?_eq_some_iff.mp h
  rw [← e]
  exact nd.idxOf_getElem i hi
variable {o e f : Expr} {td ty tx : TE} {apos cpos : Pos}
theorem pe_setN (ho : PE X o td) (he : PE X e ty) (hf : PE X f tx) (m : M2 X o "setdefault" apos e f cpos) : PE X (.Call (.Attribute o "setdefault" apos) [e, f] [] cpos) (tSetN X.prog X.w td ty tx) := by
  refine ⟨fun pins s σ H Q I h => ?_⟩
  refine wpAny_Call_method m.base m.few m.line PySem.F.plainAttrs_dict PySem.F.slot_dict_setdefault PySem.F.type_dict_setdefault (thn (ho.run pins s σ H _ I h) fun u s1 k => ?_)
  obtain ⟨x, H1, I1, rx, a, ks0, rfl, ha0, q1⟩ := k
  cases rx
  obtain ⟨⟨_, _, vs0, d0, _⟩, _⟩ := (show ObjOk X.prog X.w H1 s1.heap a (NumN X.prog X.w a ks0) from I1.hok a _ ha0)
  refine ⟨d0.typeIs, fun b e => ?_, ?_⟩
  · cases e
    obtain ⟨ob, _, _, h1, h2, _⟩ := d0
    exact ⟨ob, h1, h2.2.1⟩
  rw [m.trees]
  refine Calls.callWith_builtin rfl (Calls.evalArgs_plain (Calls.spliced_cons (thn (he.run pins s1 σ H1 _ I1 q1) fun iv s2 k2 => ?_)))
  obtain ⟨y, H2, I2, ry, q2⟩ := k2
  refine Calls.spliced_cons (thn (hf.run pins s2 σ H2 _ I2 q2) fun fv s3 k3 => Calls.spliced_nil ?_)
  obtain ⟨z, H3, I3, rz, ks, k, ha, rfl, rfl, hl, qold, qnew⟩ := k3
  obtain ⟨⟨h1, h2, vs, dd, h4, h5⟩, _⟩ := (show ObjOk X.prog X.w H3 s3.heap a (NumN X.prog X.w a ks) from I3.hok a _ ha)
  have nd : ks.Nodup := by
    obtain ⟨_, _, _, _, _, _, _, _, nd⟩ := dd
    rw [← h4]; exact nd
  have hvl : vs.length = ks.length := by rw [← h4, List.length_map]
  refine call_meetsIn PySem.F.slot_dict_setdefault dd.typeIs PySem.F.entry_dict_setdefault (PySem.F.args_dict_setdefault_3 _ _ _) (kt_meets_setdefault (noneKind X.prog X.w) a (nV_is ry) h1 fv) ⟨vs, dd, by omega, fun v hv => ?_, fun hn h' dd' sb => ?_⟩
  · unfold valueAt at hv
    cases hf : vs.find? (fun kv => decide (kv.1 = k)) with
    | none => rw [hf] at hv; cases hv
    | some kv =>
      rw [hf] at hv
      have e1 : kv.1 = k := by simpa using List.find?_some hf
      have hm := List.mem_of_find?_eq_some hf
      obtain ⟨i, hi⟩ := List.mem_iff_getElem?.mp hm
      obtain ⟨k', v'⟩ := kv
      simp only at e1
      subst e1
      cases hv
      obtain ⟨t, e⟩ := h5 i k' v' hi
      have hki : ks[i]? = some k' := by rw [← h4, List.getElem?_map, hi]; rfl
      have := idx_of_get nd hki
      refine ⟨.int (i : Nat), H3, I3.tok _, ⟨t, e⟩, ?_⟩
      rw [← this]
      exact qold (List.mem_of_getElem? hki)
  · have nin : k ∉ ks := fun hm => by
      rw [← h4] at hm
      obtain ⟨kv, hkv, e⟩ := List.mem_map.mp hm
      unfold valueAt at hn
      rw [Option.map_eq_none_iff, List.find?_eq_none] at hn
      exact hn kv hkv (by simpa using e)
    have st : stored vs k fv = vs ++ [(k, fv)] := by
      unfold stored
      rw [if_neg]
      intro z
      obtain ⟨kv, hkv, e⟩ := List.any_eq_true.mp z
      exact nin (by rw [← h4]; exact List.mem_map.mpr ⟨kv, hkv, by simpa using e⟩)
    rw [st] at dd'
    obtain ⟨tf, rfl⟩ := rz
    have he : ∃ q, h'.get? a = some q := let ⟨q, _, _, hq, _⟩ := dd'; ⟨q, hq⟩
    refine ⟨.int (ks.length : Nat), _, d_write (t' := s3.toks + 1) I3 (tracked_ext ha) sb he (numN_ok (ks := ks ++ [k]) h1 (by simp; omega) dd' (by simp [h4]) fun i k2 v2 e2 => ?_), ⟨tf, rfl⟩, qnew nin⟩
    by_cases c : i < vs.length
    · rw [List.getElem?_append_left c] at e2
      exact h5 i k2 v2 e2
    · rw [List.getElem?_append_right (by omega)] at e2
      by_cases c2 : i - vs.length = 0
      · rw [c2] at e2
        simp at e2
        have : i = ks.length := by omega
        rw [this]
        exact ⟨tf, e2.2.symm⟩
      · rw [List.getElem?_eq_none (by simp; omega)] at e2
        cases e2
theorem pe_setH {K : PySem.W.Frag} (hu : X.A.units + 16 < cLine) (ho : PE X o td) (he : PE X e ty) (hf : PE X f tx) (m : M2 X o "setdefault" apos e f cpos) (hK : X.K = K := by rfl) : PE X (.Call (.Attribute o "setdefault" apos) [e, f] [] cpos) (tSetH K X.prog X.w td ty tx) := by
  subst hK
  refine ⟨fun pins s σ H Q I h => ?_⟩
  refine wpAny_Call_method m.base m.few m.line PySem.F.plainAttrs_dict PySem.F.slot_dict_setdefault PySem.F.type_dict_setdefault (thn (ho.run pins s σ H _ I h) fun u s1 k => ?_)
  obtain ⟨x, H1, I1, rx, a, ks0, rfl, ha0, q1⟩ := k
  cases rx
  obtain ⟨⟨_, _, _, _, _, _, o0, es0, ep0, e1, e2, e3, _⟩, _⟩ := (show ObjOk X.prog X.w H1 s1.heap a (NumT X.prog X.w a ks0) from I1.hok a _ ha0)
  refine ⟨⟨o0, e1, e2.1⟩, fun b e => ?_, ?_⟩
  · cases e
    exact ⟨o0, e1, e2.2.1⟩
  rw [m.trees]
  refine Calls.callWith_builtin rfl (Calls.evalArgs_plain (Calls.spliced_cons (thn (he.run pins s1 σ H1 _ I1 q1) fun iv s2 k2 => ?_)))
  obtain ⟨y, H2, I2, ry, q2⟩ := k2
  refine Calls.spliced_cons (thn (hf.run pins s2 σ H2 _ I2 q2) fun fv s3 k3 => Calls.spliced_nil ?_)
  obtain ⟨z, H3, I3, rz, ks, d, b, ha, hks, rfl, hd, kd, rfl, hl, qold, qnew⟩ := k3
  cases ry
  obtain ⟨h1, h2, nd, ys, h4, h5, dd⟩ := dictH_of I3 ha hks
  have hyl : ys.length = ks.length := by rw [← h4, List.length_map]
  have keys : ks.map (·.1) = ys.map (·.1) := by rw [← h4, List.map_map]; rfl
  refine call_setdefault_heap (knd := dataKind X.prog X.w) (k := d) (show X.A.in1.units + 8 < cLine by show X.A.units + 1 + 8 < cLine; omega) (keyAt_of I3 hd kd) h1 dd (fun p hp => ?_) (fun hn h' dd' sb => ?_) (by omega)
  · unfold atKey at hp
    cases hf : ys.find? (fun x => decide (x.1 = d)) with
    | none => rw [hf] at hp; cases hp
    | some y =>
      rw [hf] at hp
      have e1 : y.1 = d := by simpa using List.find?_some hf
      have hm := List.mem_of_find?_eq_some hf
      obtain ⟨i, hi⟩ := List.mem_iff_getElem?.mp hm
      obtain ⟨d', b', v'⟩ := y
      simp only at e1
      subst e1
      cases hp
      obtain ⟨t, e⟩ := h5 i d' b' v' hi
      have hki : (ks.map (·.1))[i]? = some d' := by rw [keys, List.getElem?_map, hi]; rfl
      have := idx_of_get nd hki
      refine ⟨.int (i : Nat), H3, I3.tok _, ⟨t, e⟩, ?_⟩
      rw [← this]
      exact qold (List.mem_of_getElem? hki)
  · have nin : d ∉ ks.map (·.1) := fun hm => by
      rw [keys] at hm
      obtain ⟨y, hy, e⟩ := List.mem_map.mp hm
      unfold atKey at hn
      rw [Option.map_eq_none_iff, List.find?_eq_none] at hn
      exact hn y hy (by simpa using e)
    rw [storedH_new hn] at dd'
    obtain ⟨tf, rfl⟩ := rz
    obtain ⟨oo, es, ep, g1, g2, g3, g4, g5, g6⟩ := dd'
    refine ⟨.int (ks.length : Nat), _, d_write (t' := s3.toks + drawsD d) I3 (tracked_ext ha) sb ⟨oo, g1⟩ (numT_ok (ks := ks ++ [(d, b)]) (ys := ys ++ [(d, b, _)]) h1 (by simp; omega) (by simp [h4]) (fun i d2 b2 v2 e2 => ?_) ?_ ⟨oo, es, ep, g1, g2, g3, g4⟩), ⟨tf, rfl⟩, qnew nin⟩
    · by_cases c : i < ys.length
      · rw [List.getElem?_append_left c] at e2
        exact h5 i d2 b2 v2 e2
      · rw [List.getElem?_append_right (by omega)] at e2
        by_cases c2 : i - ys.length = 0
        · rw [c2] at e2
          simp at e2
          have : i = ks.length := by omega
          rw [this]
          exact ⟨tf, e2.2.2.symm⟩
        · rw [List.getElem?_eq_none (by simp; omega)] at e2
          cases e2
    · rw [List.map_append, keys]
      rw [List.map_append] at g6
      exact g6
end
end KD

set_option maxRecDepth 100000
set_option maxHeartbeats 2000000
/-! Rules that lacked: enumerate(tuple), dict(zip(list, list)). -/
namespace KD
open PySem PySem.Spec PyProof.Rows L2
open PySem.Sem (wp)
open AutoSeq1 (wpAny_loadPart')

/-! ### enumerate of a tuple -/
theorem drawsT {prog : Program} {w : World} {A : Around} (hh : A.handled = none) (it l : Addr) (hne : l ≠ it) (items : Array Value) :
    Draws prog w A it [it, l] items.size (fun i v => items[i]? = some v) (fun i h => h.IsTupleIter it l i ∧ h.IsTuple l items) where
  live := fun _ _ st => let ⟨o, ho, _⟩ := st.1; ⟨o, ho⟩
  frame := fun _ _ _ ⟨s1, s2⟩ hk => ⟨s1.at fun o e => hk it (by simp) o e, s2.at fun o e => hk l (by simp) o e⟩
  item := fun i s Q E hi ⟨s1, s2⟩ hQ =>
    RZ.nextOf_tuple_item s1 s2 (x := items[i]) (by simp [hi]) fun h' t1 t2 => hQ _ h' s.toks (by simp [hi]) ⟨t1, s2.extBut t2.extBut hne⟩ t2
  done := fun s Q E ⟨s1, s2⟩ hE => RZ.nextOf_tuple_end hh s1 s2 (by simp) hE
theorem meets_enumT (l : Addr) (items : Array Value) (n : Nat) (dct : Option Addr) (sl : Array (Option Value)) :
    Meets (Builtin.«enumerate.__new__» ⟨[.type "enumerate", .ref l], []⟩) (fun _ R s => s.heap.get? l = some { cls := .type "tuple", dict := dct, data := .seq items n, slots := sl } ∧
      R (.ok (.ret (.ref (s.heap.push { cls := .type "tuple_iterator", data := .fields #[.ref l, .int 0 0] }).objs.size)))
        { s with heap := (s.heap.push { cls := .type "tuple_iterator", data := .fields #[.ref l, .int 0 0] }).push { cls := .type "enumerate", data := .fields #[.none, .bool false, .ref s.heap.objs.size, rawInt 0, .none, .none] } }) :=
  .of_wp fun prog w A R s h => by
    obtain ⟨hp, g, d, tk, os⟩ := s
    have hl := h.1
    have hq := h.2
    have z1 := sub_enumerate
    have hT : Heap.IsTuple (Shared.heap ⟨hp, g, d, tk, os⟩) l items := ⟨_, hl, rfl, n, rfl⟩
    wp_walk using wpAny_loadPart' hl
    refine wpAny_stack_any fun st => wpAny_pure ?_
    split
    · rename_i c _ _ _ _ _
      cases (c == Value.type "enumerate") <;> (wp_walk using wpAny_loadPart' hl, wpAny_pyIter_tuple hT; exact ⟨_, rfl, hq⟩)
    · wp_walk using wpAny_loadPart' hl, wpAny_pyIter_tuple hT
      exact ⟨_, rfl, hq⟩
theorem call_enumT {prog : Program} {w : World} {A : Around} {E : Value → Shared → Prop} {s : Shared} {l : Addr} {items : Array Value} {Q : Value → Shared → Prop} (hL : s.heap.IsTuple l items)
    (h : ∀ h', IsEnum h' (s.heap.objs.size + 1) s.heap.objs.size 0 .none → h'.IsTupleIter s.heap.objs.size l 0 → (∀ b o, s.heap.get? b = some o → h'.get? b = some o) → Q (.ref (s.heap.objs.size + 1)) { s with heap := h' }) :
    wpAny (model prog w) A (call (.type "enumerate") [.ref l]) Q E s := by
  obtain ⟨⟨c, dct, dt, sl⟩, hl, hc, n, hd⟩ := hL
  have hc' : c = .type "tuple" := hc
  have hd' : dt = .seq items n := hd
  subst hc' hd'
  refine callType_new F.called_enumerate (by decide) (F.typeCall_enumerate_1 _) (F.newCall_enumerate_1 _) (fun obj => F.args_object_init_2 obj _) F.entry_enumerate_new (meets_enumT l items n dct sl) ⟨hl, ?_⟩
  have hz : (s.heap.push { cls := .type "tuple_iterator", data := .fields #[.ref l, .int 0 0] }).objs.size = s.heap.objs.size + 1 := Heap.size_push ..
  show _ ∧ _
  rw [hz]
  have he : IsEnum ((s.heap.push { cls := .type "tuple_iterator", data := .fields #[.ref l, .int 0 0] }).push
      { cls := .type "enumerate", data := .fields #[.none, .bool false, .ref s.heap.objs.size, rawInt 0, .none, .none] }) (s.heap.objs.size + 1) s.heap.objs.size 0 .none := by
    have q := Heap.get?_push_size (s.heap.push { cls := .type "tuple_iterator", data := .fields #[.ref l, .int 0 0] }) (o := { cls := .type "enumerate", data := .fields #[.none, .bool false, .ref s.heap.objs.size, rawInt 0, .none, .none] }) rfl
    rw [hz] at q
    exact q
  exact ⟨⟨_, he, rfl⟩, h _ he ⟨_, Heap.get?_push_of_some _ (Heap.get?_push_size _ rfl), rfl, rfl⟩ fun b o x => Heap.get?_push_of_some _ (Heap.get?_push_of_some _ x)⟩
/-- the tuple at a, each item in a new pair with its number -/
def IteT (K : PySem.W.Frag) (a : Addr) : It :=
  ⟨fun i H => ∃ (xs : List V) (x : V), SqT K H a xs ∧ xs[i]? = some x, fun i H v H' => ∃ T x, v = .ref T ∧ H T = none ∧ H' = upd H T (.tup [.int (i : Nat), x]) ∧ ∀ xs, SqT K H a xs → xs[i]? = some x, fun i H => ∃ xs : List V, SqT K H a xs ∧ xs.length ≤ i⟩
theorem turn_enumT {P : Program} {w : World} {K : PySem.W.Frag} {elts : List Expr} {kk : Nat} {tpos : Pos} (a e it : Addr) (hai : a ≠ it) (hae : a ≠ e) :
    Turn P w K (.Tuple elts kk tpos) (IteT K a) [e, it] e (fun i h => (∃ old, IsEnum h e it ((i : Nat) : Int) old) ∧ h.IsTupleIter it a i ∧ e ≠ it) where
  mem := by simp
  obj := fun i h ⟨⟨old, he⟩, ⟨o, ho, hc, hd⟩, _⟩ b hb => by
    rcases (show b = e ∨ b = it by simpa using hb) with z | z
    · rw [z]; exact ⟨_, he, fun v q => nomatch q⟩
    · rw [z]; exact ⟨o, ho, fun v q => by rw [hd] at q; cases q⟩
  keep := fun i h h' ⟨⟨old, he⟩, hi, hne⟩ k => ⟨⟨old, k e (by simp) _ he⟩, hi.at fun o q => k it (by simp) o q, hne⟩
  item := by
    intro X hP hw hK hc i pins s σ H E I hf ⟨⟨old, he⟩, hit, hne⟩ hg
    subst hP hw hK
    obtain ⟨xs, x, hq, hx⟩ := hg
    obtain ⟨its, rv, p, hz⟩ := I.tuple hq
    obtain ⟨u, hu, ru⟩ := rv.get hx
    have hel : e < s.heap.objs.size := Heap.lt_size he
    have hil : it < s.heap.objs.size := let ⟨_, q, _⟩ := hit; Heap.lt_size q
    have hsz : its.toArray.size = xs.length := by rw [List.size_toArray, rv.length]
    refine wpAny_pyNext_enum_itemD (drawsT (by show X.A.in1.handled = none; exact I.ok.hd hc) it a hai its.toArray) he ⟨hit, p⟩ (by rw [hsz]; exact (List.getElem?_eq_some_iff.mp hx).1) hne (by simp; exact ⟨hne, Ne.symm hae⟩) fun y h' tk hy ho hst hT _ hk => ?_
    have ey : y = u := by
      have q : its.toArray[i]? = some u := by simpa using hu
      exact Option.some.inj (hy.symm.trans q)
    subst ey
    refine ⟨_, rfl, wpAny_letOwnedTupleGo_enum (s := { s with heap := h', toks := tk + 1 }) ho fun h'' he' sb => ?_⟩
    have hT2 : h''.get? s.heap.objs.size = some { cls := .type "tuple", data := .seq #[.int i tk, y] } := (sb.2 _ (Nat.ne_of_gt hel)).trans hT
    have new : ObjOk X.prog X.w (upd H s.heap.objs.size (.tup [.int (i : Nat), x])) h'' s.heap.objs.size (.tup [.int (i : Nat), x]) :=
      ⟨by show 2 ≤ sizeLine; decide, [.int i tk, y], .cons ⟨_, rfl⟩ (.cons ru .nil), ⟨_, hT2, rfl, _, rfl⟩⟩
    have I1 : Inv X pins σ (upd H s.heap.objs.size (.tup [.int (i : Nat), x])) { s with heap := h'', toks := tk + 1 } :=
      I.turnedNew (ch := [e, it]) (fun b ob hb q => (sb.2 b (fun z => hb (by simp [z]))).trans (hk b ob (fun z => hb (by simp [z])) (fun z => hb (by simp [z])) q)) hf (Nat.le_refl _) new
    refine ⟨.ref s.heap.objs.size, _, I1, rfl, ⟨_, x, rfl, I.hok.fresh (Nat.le_refl _), rfl, fun ys hy => by rw [I.tuple_inj hy hq]; exact hx⟩, ⟨⟨y, ?_⟩, hst.1.at fun o q => (sb.2 it (Ne.symm hne)).trans q, hne⟩, fun b hb => ?_⟩
    · rw [show ((i + 1 : Nat) : Int) = (i : Int) + 1 by omega]; exact he'
    · have hb' : b < s.heap.objs.size := by
        rcases (show b = e ∨ b = it by simpa using hb) with z | z
        · rw [z]; exact hel
        · rw [z]; exact hil
      rw [upd_ne (Nat.ne_of_lt hb')]
      exact (hf b hb).1
  done := by
    intro X hP hw hK hc i pins s σ H E I hf ⟨⟨old, he⟩, hit, hne⟩ hg
    subst hP hw hK
    obtain ⟨xs, hq, hx⟩ := hg
    obtain ⟨its, rv, p, hz⟩ := I.tuple hq
    obtain ⟨f0, f1, f2, f3, f4, f5⟩ := hf it (by simp)
    have hl := rv.length
    have hT : s.TypeIs (.ref e) "enumerate" := ⟨_, he, rfl⟩
    unfold pyNext
    refine wpAny_bind (wpAny_attempt (wpAny_callSpecial?_slot (name := Str.ofString "__next__") hT F.slot_enumerate_next (wpAny_call_entry F.slot_enumerate_next hT F.entry_enumerate_next ?_ (F.args_enumerate_next_1 _))))
    show wpAny _ _ (field (.ref e) 2 >>= _) _ _ _
    refine wpAny_bind (wpAny_field he rfl (x := .ref it) rfl ?_)
    refine wpAny_bind (RZ.nextOf_tuple_end (I.ok.hd hc) hit p (by simp; omega) fun h' x eb hx' => ?_)
    obtain ⟨o, ho, hcl⟩ := hx'
    refine wpAny_bind (wpAny_isInstance (T := "StopIteration") (b := true) ⟨o, ho, hcl⟩ isSubtype_stop ?_)
    exact wpAny_pure ⟨rfl, I.turned (t' := s.toks) (fun b o hb q => eb b o hb q) f0 f1 f3 f4 f5⟩
  self := fun A i s Q E ⟨⟨_, he⟩, _⟩ h => wpAny_pyIter_enum he h
def iEnumT (K : PySem.W.Frag) (ta : TA) : TI := fun σ H R => ta σ H fun vs H1 => ∃ a xs, vs = [.ref a] ∧ SqT K H1 a xs ∧ R (IteT K a) H1
theorem pi_enumT {X : Cx} {e : Expr} {ta : TA} {p pos tpos : Pos} {elts : List Expr} {kk : Nat} (hg : Gl X "enumerate") (hm : X.mg "enumerate" = none) (ha : PA X [e] ta) (hs : starEach [e] X.env = [(false, eval e X.env)] := by rfl) :
    PI X (.Tuple elts kk tpos) (.Call (.Name "enumerate" p) [e] [] pos) (iEnumT X.K ta) := by
  refine ⟨fun pins s σ H R I h => ?_⟩
  refine Call_ (ld_blt I hg hm boot_enumerate (PyProof.Rows.callWith_type1 (thn (ha.run pos pins s σ H _ I h) fun us s1 ⟨vs, H1, I1, r1, a, xs, ex, hq, q⟩ => ?_) hs rfl))
  subst ex
  rw [Vals.ref1 r1]
  obtain ⟨its, rv, p', hz⟩ := I1.tuple hq
  have hal : a < s1.heap.objs.size := let ⟨_, q, _⟩ := p'; Heap.lt_size q
  refine call_enumT p' fun h' he hit hk => wpAny_pyIter_enum he ?_
  have I2 : Inv X pins σ H1 { s1 with heap := h' } := I1.kept (t' := s1.toks) hk
  refine ⟨s1.heap.objs.size + 1, [s1.heap.objs.size + 1, s1.heap.objs.size], _, _, H1, rfl, I2, turn_enumT a (s1.heap.objs.size + 1) s1.heap.objs.size (Nat.ne_of_lt hal) (Nat.ne_of_lt (Nat.lt_succ_of_lt hal)), ⟨⟨.none, he⟩, hit, Nat.succ_ne_self _⟩, fun b hb => ?_, q⟩
  have hle : s1.heap.objs.size ≤ b := by
    rcases (show b = s1.heap.objs.size + 1 ∨ b = s1.heap.objs.size by simpa using hb) with z | z
    · rw [z]; exact Nat.le_succ _
    · rw [z]; exact Nat.le_refl _
  exact I1.fpOk hle (I1.hok.fresh hle)

/-! ### dict(zip(list, list)) -/
def tDictZip (K : PySem.W.Frag) (ta : TA) : TE := fun σ H Q => ta σ H fun vs H1 => ∃ (a b : Addr) (ks : List Key) (ys : List V), vs = [.ref a, .ref b] ∧ SqL K H1 a (ks.map kV) ∧ SqL K H1 b ys ∧ ks.length = ys.length ∧ ks.Nodup ∧
  ∀ p, H1 p = none → Q (.ref p) (upd H1 p (.dK (ks.zip ys)))
theorem kv_of {ks : List Key} {ys : List V} {us ws : List Value} (h1 : Vals (ks.map kV) us) (h2 : Vals ys ws) (hl : ks.length = ys.length) : KV (ks.zip ys) (ks.zip ws) := by
  induction ks generalizing ys us ws with
  | nil => exact .nil
  | cons k ks ih =>
    cases h2 with
    | nil => simp at hl
    | cons r t =>
      cases h1 with
      | cons r1 t1 => exact .cons ⟨rfl, r⟩ (ih t1 t (by simpa using hl))
theorem pe_dictZip {X : Cx} {e e2 : Expr} {ta : TA} {p p2 q pos : Pos} (hc : X.calm = true) (hg : Gl X "dict") (hm : X.mg "dict" = none) (hg2 : Gl X "zip") (hm2 : X.mg "zip" = none) (ha : PA X [e, e2] ta)
    (hs : starEach [e, e2] X.env = (false, eval e X.env) :: starEach [e2] X.env := by rfl) (hpl : (backTo q (starEach [e2] X.env)).any (·.1) = false := by rfl)
    (na : starEach [.Call (.Name "zip" p2) [e, e2] [] q] X.env = (false, eval (.Call (.Name "zip" p2) [e, e2] [] q) X.env) :: starEach [] X.env := by rfl) :
    PE X (.Call (.Name "dict" p) [.Call (.Name "zip" p2) [e, e2] [] q] [] pos) (tDictZip X.K ta) := by
  refine ⟨fun pins s σ H Q I h => ?_⟩
  refine Call_ (ld_blt I hg hm boot_dict ?_)
  refine PyProof.Rows.callWith_type1 (PyProof.Rows.args_cons ?_ na) na rfl
  refine Call_ (ld_blt I hg2 hm2 PyProof.Rows.boot_zip (PyProof.Rows.callWith_type1 (thn (ha.run q pins s σ H _ I h) fun us s1 ⟨vs, H1, I1, r1, q1⟩ => ?_) hs hpl))
  obtain ⟨a, b, ks, ys, rfl, hqx, hqy, hl, nd, q1⟩ := q1
  cases r1 with
  | cons r rr =>
    cases rr with
    | cons r' rr =>
      cases rr
      cases r
      cases r'
      obtain ⟨its, rv, p1, z1⟩ := I1.list hqx
      obtain ⟨its2, rv2, p2, z2⟩ := I1.list hqy
      have l1 := rv.length
      have l2 := rv2.length
      rw [List.length_map] at l1
      refine call_zip_2 p1.isList p2.isList fun h' hz hTI hTO h1 h2 hsz hk => ?_
      refine PyProof.Rows.args_nil ?_
      have mn : min its.toArray.size its2.toArray.size = ks.length := by simp; omega
      have I2 : Inv X pins σ H1 { s1 with heap := h' } := I1.kept (t' := s1.toks) hk
      refine call_dict_pairs (s := { s1 with heap := h' }) (knd := mixKind X.prog X.w) (kvs := ks.zip its2)
        (PairArg.zip (s1.heap.objs.size + 4) (s1.heap.objs.size + 2) (s1.heap.objs.size + 3) s1.heap.objs.size (s1.heap.objs.size + 1) a b (PySem.W.ktu_apart s1.heap.objs.size a b p1.lt p2.lt) its.toArray its2.toArray) (I.ok.hd hc)
        ⟨hz, hTI, ⟨_, _, hTO⟩, h1, h2, p1.isList.at fun o e => hk _ o e, p2.isList.at fun o e => hk _ o e⟩ ⟨by rw [mn, List.length_zip]; omega, fun i key v hr => ?_⟩ (by rw [mn]; rw [List.length_map] at z1; exact z1) fun h2' tk hd hk2 => ?_
      · obtain ⟨e1, e2⟩ := hr
        have e1' : its[i]? = some key := by simpa using e1
        have e2' : its2[i]? = some v := by simpa using e2
        have hi : i < ks.length := by
          have := (List.getElem?_eq_some_iff.mp e1').1
          omega
        refine ⟨ks[i], ?_, ?_⟩
        · rw [List.getElem?_zip_eq_some]
          exact ⟨List.getElem?_eq_getElem hi, e2'⟩
        · obtain ⟨u, hu, ru⟩ := rv.get (i := i) (x := kV ks[i]) (by rw [List.getElem?_map, List.getElem?_eq_getElem hi]; rfl)
          have : u = key := Option.some.inj (hu.symm.trans e1')
          subst this
          exact kV_is (P := X.prog) (w := X.w) ru
      · have keys : ((ks.zip its2).map (·.1)).Nodup := by
          rw [List.map_fst_zip (by omega)]
          exact nd
        rw [merged_nil_of_nodup _ keys] at hd
        have hsm : ((h'.objs.size) == sysModules) = false := by
          refine beq_eq_false_iff_ne.mpr (Ne.symm (Nat.ne_of_lt ?_))
          rw [hsz]
          exact Nat.lt_of_lt_of_le I1.big (Nat.le_add_right _ _)
        have fr : ∀ c, c < s1.heap.objs.size → c ∉ [s1.heap.objs.size + 4, s1.heap.objs.size + 3, s1.heap.objs.size, s1.heap.objs.size + 1] := fun c hc' hm' => by
          simp only [List.mem_cons, List.not_mem_nil, or_false] at hm'
          omega
        have keep : ∀ c o, s1.heap.get? c = some o → h2'.get? c = some o := fun c o e => hk2 c o (fr c (Heap.lt_size e)) (hk c o e)
        have hH : H1 h'.objs.size = none := I1.hok.fresh (by rw [hsz]; omega)
        refine ⟨.ref h'.objs.size, upd H1 h'.objs.size (.dK (ks.zip ys)), ?_, rfl, q1 _ hH⟩
        refine I1.laid (t' := tk) keep (by rw [hsz]; omega) (show ObjOk X.prog X.w _ _ _ (.dK (ks.zip ys)) from ⟨?_, hsm, ks.zip its2, kv_of rv rv2 hl, hd⟩)
        rw [List.length_zip]
        omega
end KD

set_option maxRecDepth 100000
/-! set(list of ints), by what sorted needs. -/
namespace KD
open PySem PySem.Spec PyProof.Rows L2
open PySem.Sem (wp)
/-- the set as it is made -/
abbrev newS (w : World) : Obj := { cls := .type "set", dict := none, data := .set #[] 0 (.fresh 0 0 (!w.params.followText "set-order")) }
abbrev withS (w : World) (h : Heap) : Heap := h.push (newS w)
section
variable {P : Program} {w : World} {A : Around} {E : Value → Shared → Prop} {s : Shared}
def SetMade (w : World) (s : Shared) (ns : List Int) (s2 : Shared) : Prop := ∃ h' tk c, s2 = { s with heap := h', toks := tk } ∧ SetR w h' s.heap.objs.size (fun j => decide (j ∈ ns)) c ∧ c ≤ ns.length ∧ ∀ b o, s.heap.get? b = some o → h'.get? b = some o
set_option maxHeartbeats 3200000 in
theorem call_setI {l : Addr} {items : Array Value} (ns : List Int) {Q : Value → Shared → Prop} (hh : A.handled = none) (hl : s.heap.IsList l items) (hit : IntsAre items.toList ns) (hb : ns.length + 1 < scanBound)
    (h : ∀ s2, SetMade w s ns s2 → Q (.ref s.heap.objs.size) s2) : wpAny (model P w) A (call (.type "set") [.ref l]) Q E s := by
  have size : items.size = ns.length := by have z := IntsAre.length hit; rwa [Array.length_toList] at z
  obtain ⟨cc, tl, mro⟩ := F.called_set.mro
  have m1 := F.called_set.made
  have m2 := F.called_set.sub
  refine wpAny_call (codeAny_of_tree ?_)
  show wpAny _ _ (callAny (.type "set") _) _ _ _
  refine wpAny_pure ⟨Code.quiet_builtin _ (by decide +kernel), codeAny_builtin F.entry_type_call ?_⟩
  rw [Around.under_plain (weight_type_call_type "set" [.ref l] []) rfl]
  have m3 := F.called_set.notType
  have m4 := F.called_set.canCreate
  have m5 := F.typeCall_set_1 (.ref l)
  repeat (any_goals (first | assumption | wp_step))

  refine codeAny_mono (code_set_led1 (.ref l) (E := E) (Q₁ := fun obj t => obj = .ref s.heap.objs.size ∧ t = { s with heap := withS w s.heap }) ⟨rfl, rfl⟩) fun r t hr => ?_
  cases r with
  | error e => exact hr
  | ok fl =>
    cases fl with
    | ret obj =>
      obtain ⟨rfl, rfl⟩ := hr
      have at0 : (withS w s.heap).get? s.heap.objs.size = some (newS w) := Heap.get?_push_size _ rfl
      have ty0 : Shared.TypeIs { s with heap := withS w s.heap } (.ref s.heap.objs.size) "set" := ⟨_, at0, rfl⟩
      have i1 := F.called_set.init.lookup
      have i2 := F.called_set.init.bind (.ref s.heap.objs.size)
      repeat (any_goals (first | assumption | wp_step))

      refine codeAny_mono (codeAny_call_builtin (R := wants (fun r s₂ => r = .none ∧ SetMade w s ns s₂) E) F.called_set.init.plain F.entry_set_init (check_set_init_1 ty0 ?_)) fun r2 t2 hr2 => ?_
      · obtain ⟨ol, hol, hcl, nl, hdl⟩ := hl
        obtain ⟨oc, od, odata, os⟩ := ol
        simp only at hcl hdl
        subst hcl; subst hdl
        have hol2 : (withS w s.heap).get? l = some { cls := .type "list", dict := od, data := .seq items nl, slots := os } := Heap.get?_push_of_some _ hol
        have f1 := F.sub_list_set
        have f2 := F.sub_list_frozenset
        have f3 : (Value.type "list" == Value.type "dict") = false := by decide
        have isl : (withS w s.heap).IsList l items := ⟨_, hol2, rfl, nl, rfl⟩
        unfold Builtin.«set.__init__» noKeywords Builtin.Frozenset.updateFrom
        generalize hPI : pyIter = PI
        wp_walk
        subst hPI

        refine wpAny_pyIter_list isl ?_
        refine wpAny_bind (wpAny_runValue ?_)
        have lt : l < s.heap.objs.size := Heap.lt_size hol
        have h3 : A.in1.in1.in1.handled = none := by simp [hh]
        have z1 : (withS w s.heap).objs.size = s.heap.objs.size + 1 := Heap.size_push ..
        have ne1 : l ≠ (withS w s.heap).objs.size := by rw [z1]; exact Nat.ne_of_lt (Nat.lt_succ_of_lt lt)
        have off : s.heap.objs.size ∉ [(withS w s.heap).objs.size, l] := by
          rw [z1]
          simp only [List.mem_cons, List.not_mem_nil, or_false, not_or]
          exact ⟨Nat.ne_of_lt (Nat.lt_succ_self _), Nat.ne_of_gt lt⟩
        have vals : ∀ (i : Nat) (v : Value), items[i]? = some v → ∃ k t, ns[i]? = some k ∧ v = .int k t := fun i v hv => by
          have hi : i < ns.length := by rw [← size]; exact (Array.getElem?_eq_some_iff.mp hv).1
          obtain ⟨t, e⟩ := PyProof.Rows.IntsAre.int_at hit i v (by rw [Array.getElem?_toList]; exact hv)
          exact ⟨ns[i], t, List.getElem?_eq_getElem hi, by rw [e, List.getD_eq_getElem?_getD, List.getElem?_eq_getElem hi] <;> rfl⟩
        refine set_update_ints ((Walks.list h3 _ l ne1 items).toS) s.heap.objs.size off ns size hb vals (items.size - 0) 0 _ (by omega) (Nat.zero_le _) ⟨⟨_, Heap.get?_push_size _ rfl, rfl, rfl⟩, isl.push _⟩ ⟨0, Nat.le_refl 0, setR_new_at (Heap.get?_push_of_some _ at0)⟩ ?_
        intro t3 c' hm hc' hS'
        obtain ⟨h', g2, d', tk', os'⟩ := t3
        cases (hm.gens : g2 = s.gens)
        cases (hm.drawn : d' = s.drawn)
        cases (hm.os : os' = s.os)
        show wpAny _ _ _ _ _ _
        refine wpAny_pure ?_
        show wpAny _ _ (ret Value.none) _ _ _
        rw [size] at hc'
        refine wpAny_pure ⟨rfl, h', tk', c', rfl, hS', hc', fun b o e => ?_⟩
        have b0 : b < s.heap.objs.size := Heap.lt_size e
        refine hm.heap b o ?_ (Heap.get?_push_of_some _ (Heap.get?_push_of_some _ e))
        rw [z1]
        simp only [List.mem_cons, List.not_mem_nil, or_false, not_or]
        exact ⟨Nat.ne_of_lt b0, Nat.ne_of_lt (Nat.lt_succ_of_lt b0)⟩
      · cases r2 with
        | error e => exact hr2
        | ok fl2 =>
          cases fl2 with
          | ret r =>
            obtain ⟨rfl, made⟩ := hr2
            obtain ⟨h', tk, c, rfl, x⟩ := made
            repeat (any_goals (first | assumption | wp_step))
            exact h _ ⟨h', tk, c, rfl, x⟩
          | _ => exact hr2.elim
    | _ => exact hr.elim
end
section
variable {X : Cx}
def rSetI (K : PySem.W.Frag) (w : World) : List V → Hp → VK → Prop := fun vs H Q => ∃ (l : Addr) (ns : List Int), vs = [.ref l] ∧ SqL K H l (ns.map V.int) ∧ ns.length ≤ 1000 ∧ ∀ p n, H p = none → n ≤ ns.length → Q (.ref p) (upd H p (SetO w p (fun j => decide (j ∈ ns)) n))
theorem cr_setI (hc : X.calm = true := by rfl) {K : PySem.W.Frag} (hK : X.K = K := by rfl) : CallR X (.type "set") (rSetI K X.w) := by
  subst hK
  intro pins s σ H vs us Q I r h
  obtain ⟨l, ns, rfl, hq, hn, q⟩ := h
  rw [Vals.ref1 r]
  obtain ⟨its, rv, pl, hz⟩ := I.list hq
  refine call_setI ns (I.ok.hd hc) pl.isList (by simpa using RZ.intsAre_vals rv) (by unfold scanBound; omega) fun s2 ⟨h', tk, c, e, R, cl, keep⟩ => ?_
  subst e
  exact ⟨.ref s.heap.objs.size, _, I.laid (t' := tk) keep (Nat.le_refl _) (setO_new R), rfl, q _ c (I.hok.fresh (Nat.le_refl _)) cl⟩
end
/-- sorted(set(e)), a list of ints -/
def sortedSet (ns : List Int) (ys : List Int) : Prop := ys.Pairwise (· < ·) ∧ ∀ k, k ∈ ys ↔ k ∈ ns
theorem ev_sortedSet {K : PySem.W.Frag} {w : World} {σ : L2.St} {H : Hp} {te : TE} {ns : List Int} (h : EvL K te σ H (ns.map .int)) (hn : ns.length < 64) (Q : VK)
    (q : ∀ p ys H2, sortedSet ns ys → H p = none → Same H H2 → H2 p = some (.lst (ys.map V.int)) → Q (.ref p) H2) :
    tCB (rSortedSet w) (tCons (tCB (rSetI K w) (tCons te tNil)) tNil) σ H Q := by
  refine h.use _ fun p xs H1 hp s1 e1 d1 => ?_
  have e2 := d1.of_ints
  subst e2
  refine ⟨p, ns, rfl, .inl (.inl e1), by omega, fun p2 n hp2 hn2 => ?_⟩
  refine ⟨p2, _, n, rfl, upd_same, by omega, fun ys p3 h1 h2 h3 hp3 => ?_⟩
  have s2 := same_new (o := SetO w p2 (fun j => decide (j ∈ ns)) n) hp2
  exact q p3 ys _ ⟨h1, fun k => by rw [h2]; simp⟩ ((s1.trans s2).free hp3) ((s1.trans s2).trans (same_new hp3)) upd_same
end KD

set_option maxRecDepth 100000
set_option maxHeartbeats 4000000
/-! tuple * 1, and tuple * k in one rule -/
namespace KD
open PySem PySem.Spec PyProof.Rows L2
theorem tuple_mul1 (l : Addr) (items : Array Value) (n : Nat) (dd : Option Addr) (sl : Array (Option Value)) (u : Tok) :
    Meets (Builtin.«tuple.__mul__» ⟨[.ref l, .int 1 u], []⟩) (fun _ R s => s.heap.get? l = some { cls := .type "tuple", dict := dd, data := .seq items n, slots := sl } ∧ R (.ok (.ret (Value.ref l))) s) :=
  .of_wp fun prog w A R s h => by
    obtain ⟨hp, g, d, tk, os⟩ := s
    obtain ⟨hl, h⟩ := h
    have f1 := AutoSeq1.idx_int
    wp_walk using wpAny_loadPart' hl
    exact ⟨_, rfl, h⟩
def rRepU (K : PySem.W.Frag) : R2 := fun x y H Q => (∃ l xs, x = .ref l ∧ y = .int 1 ∧ SqT K H l xs ∧ Q x H) ∨ rRepT K x y H Q
section
variable {X : Cx}
theorem op_repU {K : PySem.W.Frag} (hK : X.K = K := by rfl) : OpR X (binaryOp .Mult) (rRepU K) := by
  subst hK
  intro pins s σ H x y v u Q I rx ry h
  rcases h with h | h
  · obtain ⟨l, xs, rfl, rfl, hT, q⟩ := h
    cases rx
    obtain ⟨t, rfl⟩ := ry
    obtain ⟨its, r, ⟨⟨cls, dd, data, sl⟩, ho, hc, n, hd⟩, hs⟩ := I.tuple hT
    simp only at hc hd
    subst hc hd
    refine wpAny_binaryOp_repeat_ref (T := "tuple") (U := "int") (by decide) ⟨_, ho, rfl⟩ (fun s' => typeIs_int s' 1 t) noFill_tuple_mul F.fills_int_mul F.slot_int_rmul repeat_tuple F.slot_int_index.lookup
      (call_meets F.slot_int_rmul (typeIs_int s 1 t) F.entry_int_rmul (F.args_int_rmul_2 _ _) (int_rmul_tuple 1 t l its.toArray n dd sl)
        ⟨ho, rfl, ⟨_, ho, rfl⟩, call_meets F.slot_tuple_mul ⟨_, ho, rfl⟩ F.entry_tuple_mul (F.args_tuple_mul_2 _ _) (tuple_mul1 l its.toArray n dd sl t) ⟨ho, ?_⟩⟩)
    exact ⟨.ref l, H, I, rfl, q⟩
  · exact op_repT pins s σ H x y v u Q I rx ry h
end
section
variable {K : PySem.W.Frag} {H : Hp} {σ : L2.St} {ta tb : TE} {d : PyData}
theorem flat_one {α : Type} (x : α) : ∀ n : Nat, (List.replicate n [x]).flatten = List.replicate n x
  | 0 => rfl
  | n + 1 => by rw [List.replicate_succ, List.flatten_cons, flat_one x n, List.replicate_succ]; rfl
theorem evd_rep1 {k : Nat} (ha : EvD K ta σ H (.tuple [d])) (hb : EvD K tb σ H (.int (k : Nat))) (h1 : 1 ≤ k) (h2 : k ≤ 1000) : EvD K (tOp (rRepU K) ta tb) σ H (.tuple (List.replicate k d)) := evd_op ha hb fun H1 s x y p q Q hq => by
  cases q
  by_cases c : k = 1
  · subst c
    obtain ⟨a, xs, rfl, h3, h4⟩ := p.tupE
    exact .inl ⟨a, xs, rfl, rfl, h3, hq _ H1 (Same.refl _) (.tup h3 h4)⟩
  · obtain ⟨a, xs, rfl, h3, h4⟩ := p.tupE
    obtain ⟨v, rfl, h5⟩ := h4.single
    refine .inr ⟨a, k, [v], rfl, rfl, h3, by simp, by omega, by omega, by simp, fun p2 hp2 => hq _ _ (same_new hp2) (.tup (.inl (.inl upd_same)) ?_)⟩
    rw [Int.toNat_natCast, flat_one]
    exact rep_all (h5.mono (same_new hp2)) k
where rep_all {H : Hp} {v : V} {d : PyData} (h : Dq K H v d) : ∀ k : Nat, DqAll K H (List.replicate k v) (List.replicate k d)
  | 0 => .nil
  | k + 1 => .cons h (rep_all h k)
end
end KD

set_option maxRecDepth 100000
set_option maxHeartbeats 2000000
/-! list(range(a, b, c)) -/
namespace KD
open PySem PySem.Spec PyProof.Rows L2
def stepV (i c : Int) (n : Nat) : List V := (List.range n).map fun k => V.int (i + (k : Nat) * c)
def tLstRg3 (ta : TA) : TE := fun σ H Q => ta σ H fun vs H1 => ∃ (i j c : Int) (n : Nat), vs = [.int i, .int j, .int c] ∧ RgC i j c n ∧ n ≤ 1000 ∧ ∀ q, H1 q = none → Q (.ref q) (upd H1 q (.lst (stepV i c n)))
theorem vals_step {i c : Int} {n : Nat} {acc : Array Value} (h : ItemsOf (fun k v => ∃ t, v = .int (i + k * c) t) acc n) : Vals (stepV i c n) acc.toList := by
  refine vals_of_at (by unfold stepV; rw [List.length_map, List.length_range, Array.length_toList, h.1]) fun j x u e1 e2 => ?_
  obtain ⟨t, rfl⟩ := h.2 j u (by rw [← e2, Array.getElem?_toList])
  unfold stepV at e1
  have hj := (List.getElem?_eq_some_iff.mp e1).1
  rw [List.length_map, List.length_range] at hj
  rw [List.getElem?_map, List.getElem?_range hj] at e1
  cases e1
  exact ⟨t, rfl⟩
theorem pe_listRg3 {X : Cx} {a b c : Expr} {ta : TA} {p p2 pos q : Pos} (hc : X.calm = true) (hg : Gl X "list") (hm : X.mg "list" = none) (hg2 : Gl X "range") (hm2 : X.mg "range" = none) (ha : PA X [a, b, c] ta)
    (hs : starEach [a, b, c] X.env = (false, eval a X.env) :: starEach [b, c] X.env := by rfl) (hpl : (backTo q (starEach [b, c] X.env)).any (·.1) = false := by rfl)
    (na : starEach [.Call (.Name "range" p2) [a, b, c] [] q] X.env = (false, eval (.Call (.Name "range" p2) [a, b, c] [] q) X.env) :: starEach [] X.env := by rfl) :
    PE X (.Call (.Name "list" p) [.Call (.Name "range" p2) [a, b, c] [] q] [] pos) (tLstRg3 ta) := by
  refine ⟨fun pins s σ H Q I h => ?_⟩
  refine Call_ (ld_blt I hg hm boot_list (PyProof.Rows.callWith_type1 (PyProof.Rows.args_cons ?_ na) na rfl))
  refine Call_ (ld_blt I hg2 hm2 boot_range (PyProof.Rows.callWith_type1 (thn (ha.run q pins s σ H _ I h) fun us s1 ⟨vs, H1, I1, r1, q1⟩ => ?_) hs hpl))
  obtain ⟨i, j, k, n, e, ⟨c0, c1, c2, c3⟩, hn, q1⟩ := q1
  subst e
  cases r1 with
  | cons r rr =>
    cases rr with
    | cons r' rr =>
      cases rr with
      | cons r'' rr =>
        cases rr
        obtain ⟨t, rfl⟩ := r
        obtain ⟨t', rfl⟩ := r'
        obtain ⟨t'', rfl⟩ := r''
        refine call_range_3 c0 ?_ (.inl (PyProof.noPylong_small c1))
        refine PyProof.Rows.args_nil ?_
        have I2 : Inv X pins σ H1 { s1 with heap := s1.heap.push { cls := .type "range", data := .fields #[.int i t, .int j t', .int k t''] } } := I1.kept (t' := s1.toks) fun b o e => Heap.get?_push_of_some _ e
        refine call_list_range (n := n) (I2.ok.hd hc) (IsRange.new ..) c2 c3 (by omega) fun h' tk acc c' hk e' hi => ?_
        generalize ({ s1 with heap := s1.heap.push { cls := .type "range", data := .fields #[.int i t, .int j t', .int k t''] } } : Shared) = s2 at *
        refine ⟨.ref s2.heap.objs.size, upd H1 s2.heap.objs.size (.lst (stepV i k n)), I2.laid hk (Nat.le_refl _) (show ObjOk X.prog X.w _ _ _ (.lst (stepV i k n)) from ⟨?_, acc.toList, c', vals_step hi, ?_⟩), rfl, q1 _ (I2.hok.fresh (Nat.le_refl _))⟩
        · unfold stepV
          rw [List.length_map, List.length_range, sizeLine_eq]
          omega
        · rw [Array.toArray_toList]; exact e'
theorem evl_rg3 {K : PySem.W.Frag} {H : Hp} {σ : L2.St} {ta : TA} {n : Nat} (h : EvA K ta σ H [.int ((n : Int) - 1), .int 0, .int (-1)]) (hn : n ≤ 1000) (h1 : 1 ≤ n) : EvL K (tLstRg3 ta) σ H ((List.range (n - 1)).map fun k => .int (((n - 1 - k : Nat) : Nat) : Int)) := fun H1 s Q q => h H1 s _ fun vs H2 s2 p2 => by
  obtain ⟨x, y, z, rfl, k1, k2, k3⟩ := p2.three
  cases k1; cases k2; cases k3
  refine ⟨(n : Int) - 1, 0, -1, n - 1, rfl, ?_, by omega, fun r hr => ?_⟩
  · have := RgC.neg (i := (n : Int) - 1) (j := 0) (by omega) (by omega) (by omega) (by omega)
    have e : ((n : Int) - 1 - 0).toNat = n - 1 := by omega
    rwa [e] at this
  · refine q r _ _ (s2.free hr) (s2.trans (same_new hr)) upd_same ?_
    have : stepV ((n : Int) - 1) (-1) (n - 1) = ((List.range (n - 1)).map fun k => ((n - 1 - k : Nat) : Int)).map V.int := by
      unfold stepV
      rw [List.map_map]
      refine List.map_congr_left fun k hk => ?_
      have := List.mem_range.mp hk
      simp only [Function.comp]
      congr 1
      omega
    rw [this]
    have z := DqAll.ints (K := K) (H := upd H2 r (.lst (stepV ((n : Int) - 1) (-1) (n - 1)))) ((List.range (n - 1)).map fun k => ((n - 1 - k : Nat) : Int))
    rw [this] at z
    rw [List.map_map] at z
    rw [List.map_map] at z ⊢
    exact z
end KD

/-! Matrices of classes, their products and pumps; one machine below another by a map of states. -/
namespace Mx
abbrev Mat := List (List Int)
/-- Python's min of a row that is not empty -/
def minL (l : List Int) : Int := l.foldr (fun a b => if a ≤ b then a else b) 3
def on (x y : Int) : Int := if x = 3 ∨ y = 3 then 3 else if x = 2 ∨ y = 2 then 2 else if x = -1 ∨ y = -1 then -1 else if y > x then y else x
def held (x : Int) : Int := if x = 1 then 2 else x
def ent (M : Mat) (p q : Nat) : Int := (M.getD p []).getD q 3
structure Sq (n : Nat) (M : Mat) : Prop where
  len : M.length = n
  row : ∀ r ∈ M, r.length = n
  hi : ∀ r ∈ M, ∀ x ∈ r, -1 ≤ x ∧ x ≤ 3
def ofFn (n : Nat) (f : Nat → Nat → Int) : Mat := (List.range n).map fun p => (List.range n).map fun q => f p q
def bestF (n : Nat) (f : Nat → Int) : Int := minL ((List.range n).map f)
def times (n : Nat) (A B : Mat) : Mat := ofFn n fun p q => bestF n fun t => on (ent A p t) (ent B t q)
def pumpRows (n : Nat) (A : Mat) : Mat := ofFn n fun p r => on (ent A p r) (held (ent A r r))
def pumped (n : Nat) (A : Mat) : Mat := times n (pumpRows n A) A
def unit (n : Nat) : Mat := ofFn n fun p q => if p = q then 0 else 3

theorem minL_le {l : List Int} {x : Int} (h : x ∈ l) : minL l ≤ x := by
  induction l with
  | nil => simp at h
  | cons a l ih =>
    simp only [minL, List.foldr_cons] at ih ⊢
    rcases List.mem_cons.mp h with rfl | h
    · split <;> omega
    · have := ih h
      split <;> omega
theorem minL_three (l : List Int) : minL l ≤ 3 := by
  induction l with
  | nil => simp [minL]
  | cons a l ih =>
    simp only [minL, List.foldr_cons] at ih ⊢
    split <;> omega
theorem minL_mem (l : List Int) : minL l = 3 ∨ minL l ∈ l := by
  induction l with
  | nil => simp [minL]
  | cons a l ih =>
    simp only [minL, List.foldr_cons] at ih ⊢
    split
    · exact .inr (by simp)
    · rcases ih with h | h
      · exact .inl h
      · exact .inr (List.mem_cons_of_mem _ h)
theorem minL_lb {l : List Int} {b : Int} (h : ∀ x ∈ l, b ≤ x) (hb : b ≤ 3) : b ≤ minL l := by
  rcases minL_mem l with e | e
  · omega
  · exact h _ e
theorem minL_eq {l : List Int} {m : Int} (hm : m ∈ l) (h : ∀ x ∈ l, m ≤ x) (h3 : m ≤ 3) : minL l = m := by
  have h1 := minL_le hm
  have h2 := minL_lb h h3
  omega
theorem ent_ofFn {n p q : Nat} {f : Nat → Nat → Int} (hp : p < n) (hq : q < n) : ent (ofFn n f) p q = f p q := by
  simp [ent, ofFn, List.getD_eq_getElem?_getD, hp, hq]
theorem bestF_le {n t : Nat} {f : Nat → Int} (h : t < n) : bestF n f ≤ f t := minL_le (List.mem_map.mpr ⟨t, List.mem_range.mpr h, rfl⟩)
theorem bestF_three (n : Nat) (f : Nat → Int) : bestF n f ≤ 3 := minL_three _
theorem bestF_is (n : Nat) (f : Nat → Int) : bestF n f = 3 ∨ ∃ t, t < n ∧ bestF n f = f t := by
  rcases minL_mem ((List.range n).map f) with h | h
  · exact .inl h
  · obtain ⟨t, ht, e⟩ := List.mem_map.mp h
    exact .inr ⟨t, List.mem_range.mp ht, e.symm⟩
theorem on_lo {x y : Int} (hx : -1 ≤ x) (hy : -1 ≤ y) : -1 ≤ on x y := by unfold on; repeat' split <;> omega
theorem on_hi {x y : Int} (hx : x ≤ 3) (hy : y ≤ 3) : on x y ≤ 3 := by unfold on; repeat' split <;> omega
theorem held_lo {x : Int} (hx : -1 ≤ x) : -1 ≤ held x := by unfold held; split <;> omega
theorem held_hi {x : Int} (hx : x ≤ 3) : held x ≤ 3 := by unfold held; split <;> omega
theorem sq_ofFn {n : Nat} {f : Nat → Nat → Int} (h : ∀ p q, p < n → q < n → -1 ≤ f p q ∧ f p q ≤ 3) : Sq n (ofFn n f) where
  len := by simp [ofFn]
  row := fun r hr => by
    obtain ⟨p, _, rfl⟩ := List.mem_map.mp hr
    simp
  hi := fun r hr x hx => by
    obtain ⟨p, hp, rfl⟩ := List.mem_map.mp hr
    obtain ⟨q, hq, rfl⟩ := List.mem_map.mp hx
    exact h p q (List.mem_range.mp hp) (List.mem_range.mp hq)
theorem Sq.ent {n : Nat} {M : Mat} (s : Sq n M) {p q : Nat} (hp : p < n) (hq : q < n) : -1 ≤ ent M p q ∧ ent M p q ≤ 3 := by
  have h1 : p < M.length := by rw [s.len]; exact hp
  have h2 := s.row _ (List.getElem_mem h1)
  have e : Mx.ent M p q = M[p][q] := by
    simp [Mx.ent, List.getD_eq_getElem?_getD, h1, h2, hq]
  rw [e]
  exact s.hi _ (List.getElem_mem h1) _ (List.getElem_mem _)
theorem sq_times {n : Nat} {A B : Mat} (a : Sq n A) (b : Sq n B) : Sq n (times n A B) := sq_ofFn fun p q hp hq => by
  refine ⟨?_, bestF_three _ _⟩
  rcases bestF_is n fun t => on (Mx.ent A p t) (Mx.ent B t q) with e | ⟨t, ht, e⟩
  · omega
  · rw [e]
    exact on_lo (a.ent hp ht).1 (b.ent ht hq).1
theorem sq_pumpRows {n : Nat} {A : Mat} (a : Sq n A) : Sq n (pumpRows n A) := sq_ofFn fun p q hp hq =>
  ⟨on_lo (a.ent hp hq).1 (held_lo (a.ent hq hq).1), on_hi (a.ent hp hq).2 (held_hi (a.ent hq hq).2)⟩
theorem sq_pumped {n : Nat} {A : Mat} (a : Sq n A) : Sq n (pumped n A) := sq_times (sq_pumpRows a) a
theorem sq_unit (n : Nat) : Sq n (unit n) := sq_ofFn fun p q _ _ => by split <;> omega
/-- a square matrix is told by its entries -/
theorem Sq.eq {n : Nat} {A B : Mat} (a : Sq n A) (b : Sq n B) (h : ∀ p q, p < n → q < n → Mx.ent A p q = Mx.ent B p q) : A = B := by
  refine List.ext_getElem (by rw [a.len, b.len]) fun p h1 h2 => ?_
  have r1 := a.row _ (List.getElem_mem h1)
  have r2 := b.row _ (List.getElem_mem h2)
  refine List.ext_getElem (by rw [r1, r2]) fun q h3 h4 => ?_
  have := h p q (by rw [← a.len]; exact h1) (by rw [← r1]; exact h3)
  simpa [Mx.ent, List.getD_eq_getElem?_getD, h1, h2, h3, h4] using this

/-! ### order -/
theorem on_mono {x x' y y' : Int} (hx : x ≤ x') (hy : y ≤ y') (h1 : -1 ≤ x) (h2 : -1 ≤ y) (h3 : x' ≤ 3) (h4 : y' ≤ 3) : on x y ≤ on x' y' := by
  unfold on
  repeat' split <;> omega
theorem held_mono {x x' : Int} (h : x ≤ x') (h3 : x' ≤ 3) : held x ≤ held x' := by unfold held; repeat' split <;> omega
theorem on_three {x y : Int} (hx : x ≤ 3) (hy : y ≤ 3) (h : on x y ≠ 3) : x ≠ 3 ∧ y ≠ 3 := by
  unfold on at h
  refine ⟨fun e => ?_, fun e => ?_⟩ <;> subst e <;> simp at h
theorem on_zero {x : Int} (h : -1 ≤ x) (h3 : x ≤ 3) : on 0 x = x := by unfold on; repeat' split <;> omega
theorem on_zero' {x : Int} (h : -1 ≤ x) (h3 : x ≤ 3) : on x 0 = x := by unfold on; repeat' split <;> omega
theorem on_none {x : Int} : on 3 x = 3 := by unfold on; simp
theorem on_none' {x : Int} : on x 3 = 3 := by unfold on; simp

/-- A, seen through f, is nowhere above B -/
def Le (f : Nat → Nat) (n m : Nat) (A B : Mat) : Prop := ∀ t u, t < m → u < m → ent A (f t) (f u) ≤ ent B t u
theorem ent_times {n p q : Nat} {A B : Mat} (hp : p < n) (hq : q < n) : ent (times n A B) p q = bestF n fun t => on (ent A p t) (ent B t q) := ent_ofFn hp hq
theorem ent_pumpRows {n p q : Nat} {A : Mat} (hp : p < n) (hq : q < n) : ent (pumpRows n A) p q = on (ent A p q) (held (ent A q q)) := ent_ofFn hp hq
theorem ent_unit {n p q : Nat} (hp : p < n) (hq : q < n) : ent (unit n) p q = if p = q then 0 else 3 := ent_ofFn hp hq
section
variable {f : Nat → Nat} {n m : Nat} {A A' B B' : Mat}
theorem Le.times (hf : ∀ t, t < m → f t < n) (h : Le f n m A B) (h' : Le f n m A' B') (a : Sq n A) (a' : Sq n A') (b : Sq m B) (b' : Sq m B') : Le f n m (Mx.times n A A') (Mx.times m B B') := fun t u ht hu => by
  rw [ent_times (hf t ht) (hf u hu), ent_times ht hu]
  rcases bestF_is m fun r => on (ent B t r) (ent B' r u) with e | ⟨r, hr, e⟩
  · rw [e]; exact bestF_three _ _
  · rw [e]
    refine Int.le_trans (bestF_le (hf r hr)) ?_
    exact on_mono (h t r ht hr) (h' r u hr hu) (a.ent (hf t ht) (hf r hr)).1 (a'.ent (hf r hr) (hf u hu)).1 (b.ent ht hr).2 (b'.ent hr hu).2
theorem Le.rows (hf : ∀ t, t < m → f t < n) (h : Le f n m A B) (a : Sq n A) (b : Sq m B) : Le f n m (pumpRows n A) (pumpRows m B) := fun t u ht hu => by
  rw [ent_pumpRows (hf t ht) (hf u hu), ent_pumpRows ht hu]
  exact on_mono (h t u ht hu) (held_mono (h u u hu hu) (b.ent hu hu).2) (a.ent (hf t ht) (hf u hu)).1 (held_lo (a.ent (hf u hu) (hf u hu)).1) (b.ent ht hu).2 (held_hi (b.ent hu hu).2)
theorem Le.pumped (hf : ∀ t, t < m → f t < n) (h : Le f n m A B) (a : Sq n A) (b : Sq m B) : Le f n m (Mx.pumped n A) (Mx.pumped m B) :=
  (h.rows hf a b).times hf h (sq_pumpRows a) a (sq_pumpRows b) b
theorem Le.unit (hf : ∀ t, t < m → f t < n) : Le f n m (Mx.unit n) (Mx.unit m) := fun t u ht hu => by
  rw [ent_unit (hf t ht) (hf u hu), ent_unit ht hu]
  by_cases e : t = u
  · subst e; simp
  · rw [if_neg e]
    split <;> omega
end
/-! ### machines -/
abbrev Move := Nat × Nat × Int × Nat
structure Mach where
  n : Nat
  st : List Nat
  en : List Nat
  mv : List Move
def cls (c : Int) : Int := if 1 < c then 1 else c
/-- the entry of a letter's matrix, from e on, by the moves -/
def entF (e : Int) (mv : List Move) (a p q : Nat) : Int := mv.foldl (fun e m => if m.1 = p ∧ m.2.1 = a ∧ m.2.2.2 = q then (if cls m.2.2.1 < e then cls m.2.2.1 else e) else e) e
abbrev entL (mv : List Move) (a p q : Nat) : Int := entF 3 mv a p q
def letM (M : Mach) (a : Nat) : Mat := ofFn M.n fun p q => entL M.mv a p q
theorem entL_snoc (mv : List Move) (m : Move) (a p q : Nat) : entL (mv ++ [m]) a p q = if m.1 = p ∧ m.2.1 = a ∧ m.2.2.2 = q then (if cls m.2.2.1 < entL mv a p q then cls m.2.2.1 else entL mv a p q) else entL mv a p q := by
  unfold entL entF; rw [List.foldl_append]; rfl
theorem entF_spec (a p q : Nat) : ∀ (mv : List Move) (e : Int), entF e mv a p q ≤ e ∧ (∀ c, (p, a, c, q) ∈ mv → entF e mv a p q ≤ cls c) ∧ (entF e mv a p q = e ∨ ∃ c, (p, a, c, q) ∈ mv ∧ entF e mv a p q = cls c)
  | [], e => ⟨Int.le_refl _, fun c h => by simp at h, .inl rfl⟩
  | m :: mv, e => by
    obtain ⟨p', a', c', q'⟩ := m
    by_cases h : p' = p ∧ a' = a ∧ q' = q
    · obtain ⟨rfl, rfl, rfl⟩ := h
      obtain ⟨h1, h2, h3⟩ := entF_spec a' p' q' mv (if cls c' < e then cls c' else e)
      have ee : entF e ((p', a', c', q') :: mv) a' p' q' = entF (if cls c' < e then cls c' else e) mv a' p' q' := by
        unfold entF; rw [List.foldl_cons]; simp
      rw [ee]
      have hle : (if cls c' < e then cls c' else e) ≤ e ∧ (if cls c' < e then cls c' else e) ≤ cls c' := by
        by_cases hl : cls c' < e
        · rw [if_pos hl]; omega
        · rw [if_neg hl]; omega
      refine ⟨by omega, fun c hc => ?_, ?_⟩
      · rcases List.mem_cons.mp hc with z | z
        · simp only [Prod.mk.injEq] at z
          obtain ⟨_, _, rfl, _⟩ := z
          omega
        · exact h2 c z
      · rcases h3 with z | ⟨c, hc, z⟩
        · by_cases hl : cls c' < e
          · rw [if_pos hl] at z ⊢
            exact .inr ⟨c', by simp, z⟩
          · rw [if_neg hl] at z ⊢
            exact .inl z
        · exact .inr ⟨c, List.mem_cons_of_mem _ hc, z⟩
    · obtain ⟨h1, h2, h3⟩ := entF_spec a p q mv e
      have ee : entF e ((p', a', c', q') :: mv) a p q = entF e mv a p q := by
        unfold entF; rw [List.foldl_cons, if_neg h]
      rw [ee]
      refine ⟨h1, fun c hc => ?_, ?_⟩
      · rcases List.mem_cons.mp hc with z | z
        · simp only [Prod.mk.injEq] at z
          exact absurd ⟨z.1.symm, z.2.1.symm, z.2.2.2.symm⟩ h
        · exact h2 c z
      · rcases h3 with z | ⟨c, hc, z⟩
        · exact .inl z
        · exact .inr ⟨c, List.mem_cons_of_mem _ hc, z⟩
theorem cls_lo {c : Int} (h : -1 ≤ c) : -1 ≤ cls c := by unfold cls; split <;> omega
theorem cls_hi (c : Int) : cls c ≤ 1 := by unfold cls; split <;> omega
/-- a small machine over k letters -/
structure Mach.Ok (k : Nat) (M : Mach) : Prop where
  n1 : 1 ≤ M.n
  st : ∀ p ∈ M.st, p < M.n
  en : ∀ p ∈ M.en, p < M.n
  mv : ∀ p a c q, (p, a, c, q) ∈ M.mv → p < M.n ∧ a < k ∧ (-1 ≤ c ∧ c ≤ 50) ∧ q < M.n
theorem sq_let {k a : Nat} {M : Mach} (o : M.Ok k) : Sq M.n (letM M a) := sq_ofFn fun p q _ _ => by
  obtain ⟨h1, _, h3⟩ := entF_spec a p q M.mv 3
  refine ⟨?_, h1⟩
  rcases h3 with z | ⟨c, hc, z⟩
  · show -1 ≤ entF 3 M.mv a p q
    omega
  · show -1 ≤ entF 3 M.mv a p q
    rw [z]; exact cls_lo (o.mv _ _ _ _ hc).2.2.1.1
theorem ent_let {M : Mach} {a p q : Nat} (hp : p < M.n) (hq : q < M.n) : ent (letM M a) p q = entL M.mv a p q := ent_ofFn hp hq
/-- A does by f what B does, at no higher class -/
structure Sim (f : Nat → Nat) (A B : Mach) : Prop where
  lt : ∀ t, t < B.n → f t < A.n
  st : ∀ t ∈ B.st, f t ∈ A.st
  en : ∀ t ∈ B.en, f t ∈ A.en
  mv : ∀ t a c u, (t, a, c, u) ∈ B.mv → ∃ c', (f t, a, c', f u) ∈ A.mv ∧ cls c' ≤ cls c
theorem Sim.lets {f : Nat → Nat} {A B : Mach} (s : Sim f A B) (a : Nat) : Le f A.n B.n (letM A a) (letM B a) := fun t u ht hu => by
  rw [ent_let (s.lt t ht) (s.lt u hu), ent_let ht hu]
  rcases (entF_spec a t u B.mv 3).2.2 with z | ⟨c, hc, z⟩
  · show _ ≤ entF 3 B.mv a t u
    rw [z]; exact (entF_spec a (f t) (f u) A.mv 3).1
  · obtain ⟨c', hc', hle⟩ := s.mv t a c u hc
    have := (entF_spec a (f t) (f u) A.mv 3).2.1 c' hc'
    show entF 3 A.mv a (f t) (f u) ≤ entF 3 B.mv a t u
    omega
/-- what stands in a closure, and what it is multiplied by -/
structure Clo (k : Nat) (A B : Mach) (I J : Mat → Mat → Prop) : Prop where
  sq : ∀ X Y, I X Y → Sq A.n X ∧ Sq B.n Y
  unit : I (unit A.n) (unit B.n)
  lets : ∀ a, a < k → J (letM A a) (letM B a)
  sub : ∀ X Y, J X Y → I X Y
  times : ∀ X Y X' Y', I X Y → J X' Y' → I (times A.n X X') (times B.n Y Y')
  pump : ∀ X Y, I X Y → ¬ (pumped A.n X = Mx.unit A.n ∧ pumped B.n Y = Mx.unit B.n) → J (pumped A.n X) (pumped B.n Y)
/-- the second has a way that the first has not -/
def Against (A B : Mach) (X Y : Mat) : Prop := (∀ p ∈ A.st, ∀ q ∈ A.en, 2 ≤ ent X p q) ∧ ∃ p ∈ B.st, ∃ q ∈ B.en, ent Y p q < 2
def SimI (f : Nat → Nat) (A B : Mach) (X Y : Mat) : Prop := Le f A.n B.n X Y ∧ Sq A.n X ∧ Sq B.n Y
theorem Sim.clo {f : Nat → Nat} {k : Nat} {A B : Mach} (s : Sim f A B) (a : A.Ok k) (b : B.Ok k) : Clo k A B (SimI f A B) (SimI f A B) where
  sq := fun X Y h => h.2
  unit := ⟨Le.unit s.lt, sq_unit _, sq_unit _⟩
  lets := fun x _ => ⟨s.lets x, sq_let a, sq_let b⟩
  sub := fun _ _ h => h
  times := fun X Y X' Y' h h' => ⟨h.1.times s.lt h'.1 h.2.1 h'.2.1 h.2.2 h'.2.2, sq_times h.2.1 h'.2.1, sq_times h.2.2 h'.2.2⟩
  pump := fun X Y h _ => ⟨h.1.pumped s.lt h.2.1 h.2.2, sq_pumped h.2.1, sq_pumped h.2.2⟩
theorem Sim.free {f : Nat → Nat} {k : Nat} {A B : Mach} (s : Sim f A B) (b : B.Ok k) {X Y : Mat} (h : SimI f A B X Y) : ¬ Against A B X Y := fun ⟨h1, p, hp, q, hq, h2⟩ => by
  have := h.1 p q (b.st p hp) (b.en q hq)
  have := h1 _ (s.st p hp) _ (s.en q hq)
  omega
/-- both ways, by one map -/
theorem Sim.two {k : Nat} {A B : Mach} (s : Sim id A B) (s' : Sim id B A) (e : A.n = B.n) (a : A.Ok k) (b : B.Ok k) : Clo k A B (fun X Y => SimI id A B X Y ∧ SimI id B A Y X) (fun X Y => SimI id A B X Y ∧ SimI id B A Y X) where
  sq := fun X Y h => h.1.2
  unit := ⟨(s.clo a b).unit, (s'.clo b a).unit⟩
  lets := fun x hx => ⟨(s.clo a b).lets x hx, (s'.clo b a).lets x hx⟩
  sub := fun _ _ h => h
  times := fun X Y X' Y' h h' => ⟨(s.clo a b).times X Y X' Y' h.1 h'.1, (s'.clo b a).times Y X Y' X' h.2 h'.2⟩
  pump := fun X Y h hn => ⟨(s.clo a b).pump X Y h.1 hn, (s'.clo b a).pump Y X h.2 fun z => hn ⟨z.2, z.1⟩⟩

/-! ### repeated -/
structure Rep (R M : Mach) : Prop where
  n : R.n = M.n + 1
  st : R.st = [0]
  en : R.en = [0]
  mv : ∀ p a c q, (p, a, c, q) ∈ M.mv → (p + 1, a, c, q + 1) ∈ R.mv ∧ (p ∈ M.st → (0, a, c, q + 1) ∈ R.mv) ∧ (q ∈ M.en → (p + 1, a, c, 0) ∈ R.mv) ∧ (p ∈ M.st → q ∈ M.en → (0, a, c, 0) ∈ R.mv)
/-- s stands for p -/
def Stands (l : List Nat) (s p : Nat) : Prop := s = p + 1 ∨ (s = 0 ∧ p ∈ l)
def RepJ (R M : Mach) (X Y : Mat) : Prop := Sq R.n X ∧ Sq M.n Y ∧ ∀ p q, p < M.n → q < M.n → ∀ s t, Stands M.st s p → Stands M.en t q → ent X s t ≤ ent Y p q
def RepI (R M : Mach) (X Y : Mat) : Prop := (X = unit R.n ∧ Y = unit M.n) ∨ RepJ R M X Y
theorem Stands.lt {l : List Nat} {s p n : Nat} (h : Stands l s p) (hp : p < n) : s < n + 1 := by
  rcases h with h | h <;> omega
theorem unit_times {n : Nat} {X : Mat} (x : Sq n X) : times n (unit n) X = X := (sq_times (sq_unit n) x).eq x fun p q hp hq => by
  rw [ent_times hp hq]
  have h1 : bestF n (fun t => on (ent (unit n) p t) (ent X t q)) ≤ ent X p q := by
    refine Int.le_trans (bestF_le hp) ?_
    rw [ent_unit hp hp, if_pos rfl, on_zero (x.ent hp hq).1 (x.ent hp hq).2]
    exact Int.le_refl _
  rcases bestF_is n (fun t => on (ent (unit n) p t) (ent X t q)) with e | ⟨t, ht, e⟩
  · have := (x.ent hp hq).2
    omega
  · rw [e]
    rw [ent_unit hp ht]
    by_cases c : p = t
    · subst c
      rw [if_pos rfl, on_zero (x.ent hp hq).1 (x.ent hp hq).2]
    · rw [ent_unit hp ht, if_neg c, on_none] at e
      rw [if_neg c, on_none]
      have := (x.ent hp hq).2
      omega
theorem pumpRows_unit (n : Nat) : pumpRows n (unit n) = unit n := (sq_pumpRows (sq_unit n)).eq (sq_unit n) fun p q hp hq => by
  rw [ent_pumpRows hp hq, ent_unit hp hq, ent_unit hq hq, if_pos rfl]
  have : held 0 = 0 := rfl
  rw [this]
  split
  · rfl
  · rfl
theorem pumped_unit (n : Nat) : pumped n (unit n) = unit n := by
  unfold pumped
  rw [pumpRows_unit, unit_times (sq_unit n)]
theorem RepJ.times {R M : Mach} {X Y X' Y' : Mat} (e : R.n = M.n + 1) (x : Sq R.n X) (y : Sq M.n Y) (x' : Sq R.n X') (y' : Sq M.n Y')
    (h : ∀ p r, p < M.n → r < M.n → ∀ s, Stands M.st s p → ent X s (r + 1) ≤ ent Y p r) (h' : ∀ r q, r < M.n → q < M.n → ∀ t, Stands M.en t q → ent X' (r + 1) t ≤ ent Y' r q) : RepJ R M (Mx.times R.n X X') (Mx.times M.n Y Y') := by
  refine ⟨sq_times x x', sq_times y y', fun p q hp hq s t hs ht => ?_⟩
  rw [ent_times hp hq]
  have ls := hs.lt hp
  have lt := ht.lt hq
  rw [ent_times (e ▸ ls) (e ▸ lt)]
  rcases bestF_is M.n fun r => on (ent Y p r) (ent Y' r q) with z | ⟨r, hr, z⟩
  · rw [z]; exact bestF_three _ _
  · rw [z]
    have lr : r + 1 < R.n := by omega
    refine Int.le_trans (bestF_le lr) ?_
    exact on_mono (h p r hp hr s hs) (h' r q hr hq t ht) (x.ent (e ▸ ls) lr).1 (x'.ent lr (e ▸ lt)).1 (y.ent hp hr).2 (y'.ent hr hq).2
theorem Rep.clo {k : Nat} {R M : Mach} (r : Rep R M) (a : R.Ok k) (b : M.Ok k) : Clo k R M (RepI R M) (RepJ R M) where
  sq := fun X Y h => by
    rcases h with ⟨rfl, rfl⟩ | h
    · exact ⟨sq_unit _, sq_unit _⟩
    · exact ⟨h.1, h.2.1⟩
  unit := .inl ⟨rfl, rfl⟩
  lets := fun x _ => by
    refine ⟨sq_let a, sq_let b, fun p q hp hq s t hs ht => ?_⟩
    have ls := hs.lt hp
    have lt := ht.lt hq
    rw [ent_let (r.n ▸ ls) (r.n ▸ lt), ent_let hp hq]
    rcases (entF_spec x p q M.mv 3).2.2 with z | ⟨c, hc, z⟩
    · show _ ≤ entF 3 M.mv x p q
      rw [z]; exact (entF_spec x s t R.mv 3).1
    · have hm : (s, x, c, t) ∈ R.mv := by
        obtain ⟨m1, m2, m3, m4⟩ := r.mv p x c q hc
        rcases hs with rfl | ⟨rfl, hs⟩ <;> rcases ht with rfl | ⟨rfl, ht⟩
        · exact m1
        · exact m3 ht
        · exact m2 hs
        · exact m4 hs ht
      have := (entF_spec x s t R.mv 3).2.1 c hm
      show entF 3 R.mv x s t ≤ entF 3 M.mv x p q
      omega
  sub := fun _ _ h => .inr h
  times := fun X Y X' Y' h h' => by
    rcases h with ⟨rfl, rfl⟩ | h
    · rw [unit_times h'.1, unit_times h'.2.1]; exact .inr h'
    · exact .inr (RepJ.times r.n h.1 h.2.1 h'.1 h'.2.1 (fun p r hp hr s hs => h.2.2 p r hp hr s (r + 1) hs (.inl rfl)) fun r q hr hq t ht => h'.2.2 r q hr hq (r + 1) t (.inl rfl) ht)
  pump := fun X Y h hn => by
    rcases h with ⟨rfl, rfl⟩ | h
    · exact absurd ⟨pumped_unit _, pumped_unit _⟩ hn
    · have e := r.n
      refine RepJ.times e (sq_pumpRows h.1) (sq_pumpRows h.2.1) h.1 h.2.1 (fun p r hp hr s hs => ?_) fun r q hr hq t ht => h.2.2 r q hr hq (r + 1) t (.inl rfl) ht
      have ls := hs.lt hp
      have lr : r + 1 < R.n := by omega
      rw [ent_pumpRows (e ▸ ls) lr, ent_pumpRows hp hr]
      have h1 := h.2.2 p r hp hr s (r + 1) hs (.inl rfl)
      have h2 := h.2.2 r r hr hr (r + 1) (r + 1) (.inl rfl) (.inl rfl)
      exact on_mono h1 (held_mono h2 (h.2.1.ent hr hr).2) (h.1.ent (e ▸ ls) lr).1 (held_lo (h.1.ent lr lr).1) (h.2.1.ent hp hr).2 (held_hi (h.2.1.ent hr hr).2)
theorem Rep.free {k : Nat} {R M : Mach} (r : Rep R M) (b : M.Ok k) {X Y : Mat} (h : RepI R M X Y) : ¬ Against R M X Y := fun ⟨h1, p, hp, q, hq, h2⟩ => by
  have h3 := h1 0 (by rw [r.st]; simp) 0 (by rw [r.en]; simp)
  have lp := b.st p hp
  have lq := b.en q hq
  rcases h with ⟨rfl, rfl⟩ | h
  · have l0 : 0 < R.n := by have := r.n; omega
    rw [ent_unit l0 l0, if_pos rfl] at h3
    omega
  · have := h.2.2 p q lp lq 0 0 (.inr ⟨rfl, hp⟩) (.inr ⟨rfl, hq⟩)
    omega

/-! ### trimmed -/
inductive Way (M : Mach) : Nat → Nat → Prop
  | here (p : Nat) : Way M p p
  | go {p a q r : Nat} {c : Int} : (p, a, c, q) ∈ M.mv → Way M q r → Way M p r
theorem Way.trans {M : Mach} {p q r : Nat} (h : Way M p q) (h' : Way M q r) : Way M p r := by
  induction h with
  | here => exact h'
  | go m _ ih => exact .go m (ih h')
theorem Way.last {M : Mach} {p a q r : Nat} {c : Int} (h : Way M p q) (m : (q, a, c, r) ∈ M.mv) : Way M p r := h.trans (.go m (.here _))
def Kept (M : Mach) (q : Nat) : Prop := q < M.n ∧ (∃ s ∈ M.st, Way M s q) ∧ ∃ e ∈ M.en, Way M q e
/-- T has the kept states of M, by ks -/
structure Trim (M T : Mach) (ks : List Nat) : Prop where
  nd : ks.Nodup
  mem : ∀ q, q ∈ ks ↔ Kept M q
  n : T.n = ks.length
  st : ∀ i, i ∈ T.st ↔ ∃ p, ks[i]? = some p ∧ p ∈ M.st
  en : ∀ i, i ∈ T.en ↔ ∃ p, ks[i]? = some p ∧ p ∈ M.en
  mv : ∀ i a c j, (i, a, c, j) ∈ T.mv ↔ ∃ p q, ks[i]? = some p ∧ ks[j]? = some q ∧ (p, a, c, q) ∈ M.mv
def Paths (M : Mach) (X : Mat) : Prop := ∀ p q, p < M.n → q < M.n → ent X p q ≠ 3 → Way M p q
theorem Paths.times {M : Mach} {X Y : Mat} (x : Sq M.n X) (y : Sq M.n Y) (h : Paths M X) (h' : Paths M Y) : Paths M (Mx.times M.n X Y) := fun p q hp hq z => by
  rw [ent_times hp hq] at z
  rcases bestF_is M.n fun t => on (ent X p t) (ent Y t q) with e | ⟨t, ht, e⟩
  · exact absurd e z
  · rw [e] at z
    obtain ⟨z1, z2⟩ := on_three (x.ent hp ht).2 (y.ent ht hq).2 z
    exact (h p t hp ht z1).trans (h' t q ht hq z2)
theorem Paths.rows {M : Mach} {X : Mat} (x : Sq M.n X) (h : Paths M X) : Paths M (pumpRows M.n X) := fun p q hp hq z => by
  rw [ent_pumpRows hp hq] at z
  exact h p q hp hq (on_three (x.ent hp hq).2 (held_hi (x.ent hq hq).2) z).1
theorem Paths.unit (M : Mach) : Paths M (Mx.unit M.n) := fun p q hp hq z => by
  rw [ent_unit hp hq] at z
  by_cases e : p = q
  · subst e; exact .here _
  · rw [if_neg e] at z; exact absurd rfl z
theorem Paths.lets (M : Mach) (a : Nat) : Paths M (letM M a) := fun p q hp hq z => by
  rw [ent_let hp hq] at z
  rcases (entF_spec a p q M.mv 3).2.2 with e | ⟨c, hc, _⟩
  · exact absurd e z
  · exact .go hc (.here _)
/-- Y is where M's kept states are at least as low in X -/
def Back (M : Mach) (ks : List Nat) (X Y : Mat) : Prop := ∀ i j p q, ks[i]? = some p → ks[j]? = some q → ent Y i j ≤ ent X p q
theorem Kept.mid {M : Mach} {p t q : Nat} (hp : Kept M p) (hq : Kept M q) (lt : t < M.n) (h : Way M p t) (h' : Way M t q) : Kept M t := by
  obtain ⟨_, ⟨s, hs, ws⟩, _⟩ := hp
  obtain ⟨_, _, e, he, we⟩ := hq
  exact ⟨lt, ⟨s, hs, ws.trans h⟩, e, he, h'.trans we⟩
section
variable {M T : Mach} {ks : List Nat} {X Y X' Y' : Mat}
theorem Trim.get (t : Trim M T ks) {i p : Nat} (h : ks[i]? = some p) : i < T.n ∧ Kept M p := ⟨by rw [t.n]; exact (List.getElem?_eq_some_iff.mp h).1, (t.mem p).mp (List.mem_of_getElem? h)⟩
theorem Back.times (t : Trim M T ks) (h : Back M ks X Y) (h' : Back M ks X' Y') (x : Sq M.n X) (x' : Sq M.n X') (y : Sq T.n Y) (y' : Sq T.n Y') (w : Paths M X) (w' : Paths M X') : Back M ks (Mx.times M.n X X') (Mx.times T.n Y Y') := fun i j p q hi hj => by
  obtain ⟨li, kp⟩ := t.get hi
  obtain ⟨lj, kq⟩ := t.get hj
  rw [ent_times li lj, ent_times kp.1 kq.1]
  rcases bestF_is M.n fun r => on (ent X p r) (ent X' r q) with e | ⟨r, hr, e⟩
  · rw [e]; exact bestF_three _ _
  · rw [e]
    by_cases z : on (ent X p r) (ent X' r q) = 3
    · rw [z]; exact bestF_three _ _
    · obtain ⟨z1, z2⟩ := on_three (x.ent kp.1 hr).2 (x'.ent hr kq.1).2 z
      have kr : Kept M r := kp.mid kq hr (w p r kp.1 hr z1) (w' r q hr kq.1 z2)
      obtain ⟨l, hl⟩ := List.mem_iff_getElem?.mp ((t.mem r).mpr kr)
      obtain ⟨ll, _⟩ := t.get hl
      refine Int.le_trans (bestF_le ll) ?_
      exact on_mono (h i l p r hi hl) (h' l j r q hl hj) (y.ent li ll).1 (y'.ent ll lj).1 (x.ent kp.1 hr).2 (x'.ent hr kq.1).2
theorem Back.rows (t : Trim M T ks) (h : Back M ks X Y) (x : Sq M.n X) (y : Sq T.n Y) : Back M ks (pumpRows M.n X) (pumpRows T.n Y) := fun i j p q hi hj => by
  obtain ⟨li, kp⟩ := t.get hi
  obtain ⟨lj, kq⟩ := t.get hj
  rw [ent_pumpRows li lj, ent_pumpRows kp.1 kq.1]
  exact on_mono (h i j p q hi hj) (held_mono (h j j q q hj hj) (x.ent kq.1 kq.1).2) (y.ent li lj).1 (held_lo (y.ent lj lj).1) (x.ent kp.1 kq.1).2 (held_hi (x.ent kq.1 kq.1).2)
theorem Back.unit (t : Trim M T ks) : Back M ks (Mx.unit M.n) (Mx.unit T.n) := fun i j p q hi hj => by
  obtain ⟨li, kp⟩ := t.get hi
  obtain ⟨lj, kq⟩ := t.get hj
  rw [ent_unit li lj, ent_unit kp.1 kq.1]
  by_cases e : p = q
  · subst e
    have : i = j := (List.getElem?_inj (by rw [← t.n]; exact li) t.nd).mp (hi.trans hj.symm)
    rw [if_pos this, if_pos rfl]; exact Int.le_refl _
  · rw [if_neg e]
    split <;> omega
theorem Back.lets (t : Trim M T ks) (a : Nat) : Back M ks (letM M a) (letM T a) := fun i j p q hi hj => by
  obtain ⟨li, kp⟩ := t.get hi
  obtain ⟨lj, kq⟩ := t.get hj
  rw [ent_let li lj, ent_let kp.1 kq.1]
  rcases (entF_spec a p q M.mv 3).2.2 with e | ⟨c, hc, e⟩
  · show _ ≤ entF 3 M.mv a p q
    rw [e]; exact (entF_spec a i j T.mv 3).1
  · have := (entF_spec a i j T.mv 3).2.1 c ((t.mv i a c j).mpr ⟨p, q, hi, hj, hc⟩)
    show entF 3 T.mv a i j ≤ entF 3 M.mv a p q
    omega
def TrimI (M T : Mach) (ks : List Nat) (X Y : Mat) : Prop := SimI (fun i => ks.getD i 0) M T X Y ∧ Paths M X ∧ Back M ks X Y
theorem getD_of {i p : Nat} (h : ks[i]? = some p) : ks.getD i 0 = p := by rw [List.getD_eq_getElem?_getD, h]; rfl
theorem Trim.sim (t : Trim M T ks) : Sim (fun i => ks.getD i 0) M T where
  lt := fun i hi => by
    rw [t.n] at hi
    have e := List.getElem?_eq_getElem hi
    show ks.getD i 0 < M.n
    rw [getD_of e]
    exact (t.get e).2.1
  st := fun i hi => by
    obtain ⟨p, e, hp⟩ := (t.st i).mp hi
    show ks.getD i 0 ∈ M.st
    rw [getD_of e]; exact hp
  en := fun i hi => by
    obtain ⟨p, e, hp⟩ := (t.en i).mp hi
    show ks.getD i 0 ∈ M.en
    rw [getD_of e]; exact hp
  mv := fun i a c j h => by
    obtain ⟨p, q, e1, e2, hm⟩ := (t.mv i a c j).mp h
    refine ⟨c, ?_, Int.le_refl _⟩
    show (ks.getD i 0, a, c, ks.getD j 0) ∈ M.mv
    rw [getD_of e1, getD_of e2]; exact hm
theorem Trim.clo {k : Nat} (t : Trim M T ks) (a : M.Ok k) (b : T.Ok k) : Clo k M T (TrimI M T ks) (TrimI M T ks) where
  sq := fun X Y h => h.1.2
  unit := ⟨(t.sim.clo a b).unit, Paths.unit M, Back.unit t⟩
  lets := fun x hx => ⟨(t.sim.clo a b).lets x hx, Paths.lets M x, Back.lets t x⟩
  sub := fun _ _ h => h
  times := fun X Y X' Y' h h' => ⟨(t.sim.clo a b).times X Y X' Y' h.1 h'.1, h.2.1.times h.1.2.1 h'.1.2.1 h'.2.1, h.2.2.times t h'.2.2 h.1.2.1 h'.1.2.1 h.1.2.2 h'.1.2.2 h.2.1 h'.2.1⟩
  pump := fun X Y h hn => ⟨(t.sim.clo a b).pump X Y h.1 hn, (h.2.1.rows h.1.2.1).times (sq_pumpRows h.1.2.1) h.1.2.1 h.2.1,
    (h.2.2.rows t h.1.2.1 h.1.2.2).times t h.2.2 (sq_pumpRows h.1.2.1) h.1.2.1 (sq_pumpRows h.1.2.2) h.1.2.2 (h.2.1.rows h.1.2.1) h.2.1⟩
theorem Trim.free2 {k : Nat} (t : Trim M T ks) (a : M.Ok k) (h : TrimI M T ks X Y) : ¬ Against T M Y X := fun ⟨h1, p, hp, q, hq, h2⟩ => by
  have lp := a.st p hp
  have lq := a.en q hq
  have w := h.2.1 p q lp lq (by omega)
  have kp : Kept M p := ⟨lp, ⟨p, hp, .here _⟩, q, hq, w⟩
  have kq : Kept M q := ⟨lq, ⟨p, hp, w⟩, q, hq, .here _⟩
  obtain ⟨i, hi⟩ := List.mem_iff_getElem?.mp ((t.mem p).mpr kp)
  obtain ⟨j, hj⟩ := List.mem_iff_getElem?.mp ((t.mem q).mpr kq)
  have := h1 i ((t.st i).mpr ⟨p, hi, hp⟩) j ((t.en j).mpr ⟨q, hj, hq⟩)
  have := h.2.2 i j p q hi hj
  omega
end
/-- nothing is kept: the machine of one state without a start -/
def NoI (M T : Mach) (X Y : Mat) : Prop := Sq M.n X ∧ Sq T.n Y ∧ Paths M X
theorem no_clo {k : Nat} {M T : Mach} (a : M.Ok k) (b : T.Ok k) : Clo k M T (NoI M T) (NoI M T) where
  sq := fun X Y h => ⟨h.1, h.2.1⟩
  unit := ⟨sq_unit _, sq_unit _, Paths.unit M⟩
  lets := fun x _ => ⟨sq_let a, sq_let b, Paths.lets M x⟩
  sub := fun _ _ h => h
  times := fun X Y X' Y' h h' => ⟨sq_times h.1 h'.1, sq_times h.2.1 h'.2.1, h.2.2.times h.1 h'.1 h'.2.2⟩
  pump := fun X Y h _ => ⟨sq_pumped h.1, sq_pumped h.2.1, (h.2.2.rows h.1).times (sq_pumpRows h.1) h.1 h.2.2⟩
theorem no_free {k : Nat} {M T : Mach} (a : M.Ok k) (hk : ∀ q, ¬ Kept M q) (ht : T.st = []) {X Y : Mat} (h : NoI M T X Y) : ¬ Against M T X Y ∧ ¬ Against T M Y X := by
  refine ⟨fun ⟨_, p, hp, _⟩ => by rw [ht] at hp; simp at hp, fun ⟨_, p, hp, q, hq, h2⟩ => ?_⟩
  have lp := a.st p hp
  have w := h.2.2 p q lp (a.en q hq) (by omega)
  exact hk p ⟨lp, ⟨p, hp, .here _⟩, q, hq, w⟩
end Mx

/-! What the code makes of matrices is what Mx says. -/
namespace Mx
theorem map_range {α β : Type} (l : List α) (d : α) (F : α → β) : l.map F = (List.range l.length).map fun p => F (l.getD p d) := by
  refine List.ext_getElem (by simp) fun i h1 h2 => ?_
  have h : i < l.length := by simpa using h1
  simp [List.getD_eq_getElem?_getD, h]
theorem zipWith_range {n : Nat} {a b : List Int} (f : Int → Int → Int) (ha : a.length = n) (hb : b.length = n) (d : Int) : List.zipWith f a b = (List.range n).map fun t => f (a.getD t d) (b.getD t d) := by
  refine List.ext_getElem (by simp; omega) fun i h1 h2 => ?_
  have h : i < n := by simpa using h2
  have h3 : i < a.length := by omega
  have h4 : i < b.length := by omega
  simp [List.getD_eq_getElem?_getD, h3, h4]
def colB (B : Mat) (q : Nat) : List Int := B.map fun s => s.getD q 3
theorem colB_len {n : Nat} {B : Mat} (b : Sq n B) (q : Nat) : (colB B q).length = n := by unfold colB; rw [List.length_map, b.len]
theorem colB_get {n t q : Nat} {B : Mat} (b : Sq n B) (ht : t < n) : (colB B q).getD t 3 = ent B t q := by
  have : t < B.length := by rw [b.len]; exact ht
  simp [colB, ent, List.getD_eq_getElem?_getD, this]
theorem Sq.rowlen {n p : Nat} {A : Mat} (a : Sq n A) (hp : p < n) : (A.getD p []).length = n := by
  have : p < A.length := by rw [a.len]; exact hp
  rw [List.getD_eq_getElem?_getD, List.getElem?_eq_getElem this]
  exact a.row _ (List.getElem_mem this)
theorem times_code {n : Nat} {A B : Mat} (a : Sq n A) (b : Sq n B) : (A.map fun r => (List.range n).map fun q => minL (List.zipWith on r (colB B q))) = times n A B := by
  rw [map_range A []]
  unfold times ofFn
  rw [a.len]
  refine List.map_congr_left fun p hp => List.map_congr_left fun q hq => ?_
  have lp := List.mem_range.mp hp
  have lq := List.mem_range.mp hq
  rw [zipWith_range on (a.rowlen lp) (colB_len b q) 3]
  unfold bestF
  congr 1
  refine List.map_congr_left fun t ht => ?_
  have lt := List.mem_range.mp ht
  rw [colB_get b lt]
  rfl
theorem row_get {n p q : Nat} {A : Mat} (a : Sq n A) (hp : p < n) (hq : q < n) : ∃ r, A[p]? = some r ∧ r[q]? = some (ent A p q) := by
  have h1 : p < A.length := by rw [a.len]; exact hp
  have h2 := a.row _ (List.getElem_mem h1)
  refine ⟨A[p], List.getElem?_eq_getElem h1, ?_⟩
  have h3 : q < A[p].length := by rw [h2]; exact hq
  rw [List.getElem?_eq_getElem h3]
  simp [ent, List.getD_eq_getElem?_getD, h1, h3]
theorem Sq.colget {n q : Nat} {B : Mat} (b : Sq n B) (hq : q < n) {s : List Int} (hs : s ∈ B) : s[q]? = some (s.getD q 3) := by
  have h : q < s.length := by rw [b.row s hs]; exact hq
  simp [List.getD_eq_getElem?_getD, h]
/-- what min gives of a row of products -/
theorem min_row {n : Nat} {r c : List Int} (h1 : r.length = n) (h2 : c.length = n) (pos : 1 ≤ n) (hr : ∀ x ∈ r, x ≤ 3) (hc : ∀ x ∈ c, x ≤ 3) :
    minL (List.zipWith on r c) ∈ List.zipWith on r c ∧ ∀ y ∈ List.zipWith on r c, minL (List.zipWith on r c) ≤ y := by
  refine ⟨?_, fun y hy => minL_le hy⟩
  rcases minL_mem (List.zipWith on r c) with h | h
  · have ne : List.zipWith on r c ≠ [] := fun e => by
      have l2 : min r.length c.length = 0 := by rw [← List.length_zipWith, e]; rfl
      omega
    obtain ⟨x, hx⟩ := List.exists_mem_of_ne_nil _ ne
    have h3 : x ≤ 3 := by
      obtain ⟨i, hi⟩ := List.mem_iff_getElem?.mp hx
      rw [List.getElem?_zipWith] at hi
      cases e1 : r[i]? with
      | none => rw [e1] at hi; simp at hi
      | some a =>
        cases e2 : c[i]? with
        | none => rw [e1, e2] at hi; simp at hi
        | some b =>
          rw [e1, e2] at hi
          simp at hi
          rw [← hi]
          exact on_hi (hr a (List.mem_of_getElem? e1)) (hc b (List.mem_of_getElem? e2))
    have := minL_le hx
    have : x = 3 := by omega
    rw [h, ← this]
    exact hx
  · exact h
end Mx

set_option maxRecDepth 100000
set_option maxHeartbeats 2000000
/-! Where defs, classes, methods, exceptions stand. -/
namespace Kw
open PySem PySem.Spec PyProof.Rows L2 KD
structure At (K : PySem.W.Frag) (mg : Str → Option Value) (x : Str) (st : Stmt) (ps : List Str) where
  f : Addr
  d : FuncData
  F : Fun K x x st f d
  g : mg x = some (.ref f)
  b : Binds K d ps []
/-- a class of one's own with methods -/
structure ClAt (K : PySem.W.Frag) (mg : Str → Option Value) (x : Str) where
  C : Addr
  g : mg x = some (.ref C)
  cl : Cls K C
  makes : PySem.W.makesIn K C = true
  kp : PySem.W.keepIn K (.ref C) = true
structure MeAt (K : PySem.W.Frag) (C : Addr) (m q : Str) (st : Stmt) (ps : List Str) where
  f : Addr
  d : FuncData
  F : Fun K m q st f d
  m : Meth K C m f
  b : Binds K d ps []
structure ExAt (K : PySem.W.Frag) (mg : Str → Option Value) (x : Str) where
  C : Addr
  g : mg x = some (.ref C)
  ex : PySem.W.excIn K C [.type "ValueError", .type "Exception", .type "BaseException", .type "object"] "ValueError.__new__" = true
  k : PySem.W.keepIn K (.ref C) = true
  sB : PySem.W.subIn K (.ref C) (.type "BaseException") = some true
  ty : PySem.W.typeIn K (.ref C) = some (.type "type")
  cl : PySem.W.isClsIn K C = true
end Kw

set_option maxRecDepth 100000
set_option maxHeartbeats 2000000
/-! The text: where each def stands, and what the top has written. -/
namespace Kw
open PySem PySem.Spec PyProof.Rows L2 KD
def topS (i : Nat) : Stmt := PySem.Challenge.pw_costslimited_k84_whole_machines_below_on.main.body.getD i (.Pass ⟨0, 0, 0, 0⟩)
abbrev s_is_int : Stmt := topS 14
abbrev s_within : Stmt := topS 15
abbrev s_is_row : Stmt := topS 16
abbrev s_is_low_name : Stmt := topS 17
abbrev s_is_ascending : Stmt := topS 18
abbrev s_are_indexes : Stmt := topS 19
abbrev s_are_letters : Stmt := topS 22
abbrev s_is_move : Stmt := topS 28
abbrev s_is_any_machine : Stmt := topS 29
abbrev s_is_machine : Stmt := topS 30
abbrev s_need_machine : Stmt := topS 31
abbrev s_need_other_machine : Stmt := topS 32
abbrev s_need_alike : Stmt := topS 33
abbrev s_need_both_machines : Stmt := topS 34
abbrev s_has_reset : Stmt := topS 35
abbrev s_need_plain : Stmt := topS 36
abbrev s_made_machine : Stmt := topS 37
abbrev s_on : Stmt := topS 44
abbrev s_times : Stmt := topS 45
abbrev s_best_way : Stmt := topS 46
abbrev s_is_own_square : Stmt := topS 47
abbrev s_held : Stmt := topS 48
abbrev s_pumped : Stmt := topS 49
abbrev s_class_of_cost : Stmt := topS 50
abbrev s_unit : Stmt := topS 51
abbrev s_matrices_of_letters : Stmt := topS 52
abbrev s_need_two_machines : Stmt := topS 54
abbrev s_pair_times : Stmt := topS 55
abbrev s_is_own_pair : Stmt := topS 56
abbrev s_pair_pumped : Stmt := topS 57
abbrev s_pairs_of_letters : Stmt := topS 58
abbrev s_unit_pair : Stmt := topS 59
abbrev s_is_against : Stmt := topS 60
abbrev s_PairClosure_init : Stmt := inClass (topS 61) 0
abbrev s_PairClosure_add : Stmt := inClass (topS 61) 1
abbrev s_PairClosure_make : Stmt := inClass (topS 61) 2
abbrev s_PairClosure_multiply : Stmt := inClass (topS 61) 3
abbrev s_closure_of_two : Stmt := topS 64
abbrev s_first_against : Stmt := topS 65
abbrev s_is_below_inside : Stmt := topS 66
abbrev s_is_below : Stmt := topS 67
abbrev s_grow_alike : Stmt := topS 68
abbrev s_is_language : Stmt := topS 71
abbrev s_need_language : Stmt := topS 72
abbrev s_spread_over : Stmt := topS 74
abbrev s_trimmed_of : Stmt := topS 75
abbrev s_trimmed : Stmt := topS 76
abbrev s_moved : Stmt := topS 77
abbrev s_moved_moves : Stmt := topS 78
abbrev s_cheaper : Stmt := topS 79
abbrev s_restricted_to : Stmt := topS 80
abbrev s_restricted : Stmt := topS 81
abbrev s_summed : Stmt := topS 82
abbrev s_repeated_of : Stmt := topS 84
abbrev s_repeated : Stmt := topS 85
abbrev s_need_plain_machine : Stmt := topS 87
abbrev s_mirrored_machine : Stmt := topS 88
abbrev s_scaled : Stmt := topS 89
abbrev s_l_well : Stmt := topS 91
abbrev s_l_draw : Stmt := topS 92
abbrev s_l_machine : Stmt := topS 93
abbrev s_l_language : Stmt := topS 94
abbrev s_l_below : Stmt := topS 95
abbrev s_l_alike_growth : Stmt := topS 96
abbrev s_l_plain_pairs : Stmt := topS 97
abbrev s_law : Stmt := topS 98
theorem sc_is_int : FnScope ["thing"] ["thing"] (defScope s_is_int) := ⟨rfl, rfl, rfl, by decide +kernel, rfl, by decide +kernel, by decide +kernel⟩
theorem sc_within : FnScope ["thing", "low", "high"] ["thing", "low", "high"] (defScope s_within) := ⟨rfl, rfl, rfl, by decide +kernel, rfl, by decide +kernel, by decide +kernel⟩
theorem sc_is_row : FnScope ["thing", "low", "high"] ["thing", "low", "high"] (defScope s_is_row) := ⟨rfl, rfl, rfl, by decide +kernel, rfl, by decide +kernel, by decide +kernel⟩
theorem sc_is_low_name : FnScope ["thing", "sign"] ["thing"] (defScope s_is_low_name) := ⟨rfl, rfl, rfl, by decide +kernel, rfl, by decide +kernel, by decide +kernel⟩
theorem sc_is_ascending : FnScope ["thing", "one", "other"] ["thing"] (defScope s_is_ascending) := ⟨rfl, rfl, rfl, by decide +kernel, rfl, by decide +kernel, by decide +kernel⟩
theorem sc_are_indexes : FnScope ["thing", "many", "entry"] ["thing", "many"] (defScope s_are_indexes) := ⟨rfl, rfl, rfl, by decide +kernel, rfl, by decide +kernel, by decide +kernel⟩
theorem sc_are_letters : FnScope ["thing", "name"] ["thing"] (defScope s_are_letters) := ⟨rfl, rfl, rfl, by decide +kernel, rfl, by decide +kernel, by decide +kernel⟩
theorem sc_is_move : FnScope ["many_letters", "states", "thing", "state"] ["many_letters", "states", "thing"] (defScope s_is_move) := ⟨rfl, rfl, rfl, by decide +kernel, rfl, by decide +kernel, by decide +kernel⟩
theorem sc_is_any_machine : FnScope ["thing", "letters", "states", "starts", "ends", "moves", "move"] ["thing"] (defScope s_is_any_machine) := ⟨rfl, rfl, rfl, by decide +kernel, rfl, by decide +kernel, by decide +kernel⟩
theorem sc_is_machine : FnScope ["thing"] ["thing"] (defScope s_is_machine) := ⟨rfl, rfl, rfl, by decide +kernel, rfl, by decide +kernel, by decide +kernel⟩
theorem sc_need_machine : FnScope ["machine"] ["machine"] (defScope s_need_machine) := ⟨rfl, rfl, rfl, by decide +kernel, rfl, by decide +kernel, by decide +kernel⟩
theorem sc_need_other_machine : FnScope ["other"] ["other"] (defScope s_need_other_machine) := ⟨rfl, rfl, rfl, by decide +kernel, rfl, by decide +kernel, by decide +kernel⟩
theorem sc_need_alike : FnScope ["letters", "others"] ["letters", "others"] (defScope s_need_alike) := ⟨rfl, rfl, rfl, by decide +kernel, rfl, by decide +kernel, by decide +kernel⟩
theorem sc_need_both_machines : FnScope ["machine", "other"] ["machine", "other"] (defScope s_need_both_machines) := ⟨rfl, rfl, rfl, by decide +kernel, rfl, by decide +kernel, by decide +kernel⟩
theorem sc_has_reset : FnScope ["machine", "move"] ["machine"] (defScope s_has_reset) := ⟨rfl, rfl, rfl, by decide +kernel, rfl, by decide +kernel, by decide +kernel⟩
theorem sc_need_plain : FnScope ["machine"] ["machine"] (defScope s_need_plain) := ⟨rfl, rfl, rfl, by decide +kernel, rfl, by decide +kernel, by decide +kernel⟩
theorem sc_made_machine : FnScope ["letters", "states", "starts", "ends", "moves"] ["letters", "states", "starts", "ends", "moves"] (defScope s_made_machine) := ⟨rfl, rfl, rfl, by decide +kernel, rfl, by decide +kernel, by decide +kernel⟩
theorem sc_on : FnScope ["x", "y"] ["x", "y"] (defScope s_on) := ⟨rfl, rfl, rfl, by decide +kernel, rfl, by decide +kernel, by decide +kernel⟩
theorem sc_times : FnScope ["first", "second", "size", "columns", "q", "row", "column"] ["first", "second"] (defScope s_times) := ⟨rfl, rfl, rfl, by decide +kernel, rfl, by decide +kernel, by decide +kernel⟩
theorem sc_best_way : FnScope ["row", "column", "x", "y"] ["row", "column"] (defScope s_best_way) := ⟨rfl, rfl, rfl, by decide +kernel, rfl, by decide +kernel, by decide +kernel⟩
theorem sc_is_own_square : FnScope ["matrix"] ["matrix"] (defScope s_is_own_square) := ⟨rfl, rfl, rfl, by decide +kernel, rfl, by decide +kernel, by decide +kernel⟩
theorem sc_held : FnScope ["x"] ["x"] (defScope s_held) := ⟨rfl, rfl, rfl, by decide +kernel, rfl, by decide +kernel, by decide +kernel⟩
theorem sc_pumped : FnScope ["matrix", "size", "rows", "p", "r"] ["matrix"] (defScope s_pumped) := ⟨rfl, rfl, rfl, by decide +kernel, rfl, by decide +kernel, by decide +kernel⟩
theorem sc_class_of_cost : FnScope ["cost"] ["cost"] (defScope s_class_of_cost) := ⟨rfl, rfl, rfl, by decide +kernel, rfl, by decide +kernel, by decide +kernel⟩
theorem sc_unit : FnScope ["size", "p", "q"] ["size"] (defScope s_unit) := ⟨rfl, rfl, rfl, by decide +kernel, rfl, by decide +kernel, by decide +kernel⟩
theorem sc_matrices_of_letters : FnScope ["machine", "letters", "states", "starts", "ends", "moves", "found", "p", "letter", "cost", "q", "rows", "row"] ["machine"] (defScope s_matrices_of_letters) := ⟨rfl, rfl, rfl, by decide +kernel, rfl, by decide +kernel, by decide +kernel⟩
theorem sc_need_two_machines : FnScope ["first", "second"] ["first", "second"] (defScope s_need_two_machines) := ⟨rfl, rfl, rfl, by decide +kernel, rfl, by decide +kernel, by decide +kernel⟩
theorem sc_pair_times : FnScope ["one", "other"] ["one", "other"] (defScope s_pair_times) := ⟨rfl, rfl, rfl, by decide +kernel, rfl, by decide +kernel, by decide +kernel⟩
theorem sc_is_own_pair : FnScope ["pair"] ["pair"] (defScope s_is_own_pair) := ⟨rfl, rfl, rfl, by decide +kernel, rfl, by decide +kernel, by decide +kernel⟩
theorem sc_pair_pumped : FnScope ["pair"] ["pair"] (defScope s_pair_pumped) := ⟨rfl, rfl, rfl, by decide +kernel, rfl, by decide +kernel, by decide +kernel⟩
theorem sc_pairs_of_letters : FnScope ["first", "second"] ["first", "second"] (defScope s_pairs_of_letters) := ⟨rfl, rfl, rfl, by decide +kernel, rfl, by decide +kernel, by decide +kernel⟩
theorem sc_unit_pair : FnScope ["first", "second"] ["first", "second"] (defScope s_unit_pair) := ⟨rfl, rfl, rfl, by decide +kernel, rfl, by decide +kernel, by decide +kernel⟩
theorem sc_is_against : FnScope ["first", "second", "pair", "own", "other", "p", "q", "entry"] ["first", "second", "pair"] (defScope s_is_against) := ⟨rfl, rfl, rfl, by decide +kernel, rfl, by decide +kernel, by decide +kernel⟩
theorem sc_PairClosure_init : FnScope ["self", "first", "second", "most", "letter", "pair", "at"] ["self", "first", "second", "most"] (defScope s_PairClosure_init) := ⟨rfl, rfl, rfl, by decide +kernel, rfl, by decide +kernel, by decide +kernel⟩
theorem sc_PairClosure_add : FnScope ["self", "pair", "entry"] ["self", "pair", "entry"] (defScope s_PairClosure_add) := ⟨rfl, rfl, rfl, by decide +kernel, rfl, by decide +kernel, by decide +kernel⟩
theorem sc_PairClosure_make : FnScope ["self", "pair", "entry"] ["self", "pair", "entry"] (defScope s_PairClosure_make) := ⟨rfl, rfl, rfl, by decide +kernel, rfl, by decide +kernel, by decide +kernel⟩
theorem sc_PairClosure_multiply : FnScope ["self", "k", "maker", "index"] ["self"] (defScope s_PairClosure_multiply) := ⟨rfl, rfl, rfl, by decide +kernel, rfl, by decide +kernel, by decide +kernel⟩
theorem sc_closure_of_two : FnScope ["first", "second"] ["first", "second"] (defScope s_closure_of_two) := ⟨rfl, rfl, rfl, by decide +kernel, rfl, by decide +kernel, by decide +kernel⟩
theorem sc_first_against : FnScope ["first", "second", "closure", "index", "pair"] ["first", "second", "closure"] (defScope s_first_against) := ⟨rfl, rfl, rfl, by decide +kernel, rfl, by decide +kernel, by decide +kernel⟩
theorem sc_is_below_inside : FnScope ["first", "second"] ["first", "second"] (defScope s_is_below_inside) := ⟨rfl, rfl, rfl, by decide +kernel, rfl, by decide +kernel, by decide +kernel⟩
theorem sc_is_below : FnScope ["first", "second"] ["first", "second"] (defScope s_is_below) := ⟨rfl, rfl, rfl, by decide +kernel, rfl, by decide +kernel, by decide +kernel⟩
theorem sc_grow_alike : FnScope ["first", "second", "found", "pair"] ["first", "second"] (defScope s_grow_alike) := ⟨rfl, rfl, rfl, by decide +kernel, rfl, by decide +kernel, by decide +kernel⟩
theorem sc_is_language : FnScope ["thing", "letters", "rows", "ends", "row", "state"] ["thing"] (defScope s_is_language) := ⟨rfl, rfl, rfl, by decide +kernel, rfl, by decide +kernel, by decide +kernel⟩
theorem sc_need_language : FnScope ["language"] ["language"] (defScope s_need_language) := ⟨rfl, rfl, rfl, by decide +kernel, rfl, by decide +kernel, by decide +kernel⟩
theorem sc_spread_over : FnScope ["states", "nexts", "found", "waiting", "new", "state"] ["states", "nexts"] (defScope s_spread_over) := ⟨rfl, rfl, rfl, by decide +kernel, rfl, by decide +kernel, by decide +kernel⟩
theorem sc_trimmed_of : FnScope ["machine", "letters", "states", "starts", "ends", "moves", "ahead", "back", "p", "letter", "cost", "q", "come", "lead", "kept", "numbers", "rows", "first", "state", "number"] ["machine"] (defScope s_trimmed_of) := ⟨rfl, rfl, rfl, by decide +kernel, rfl, by decide +kernel, by decide +kernel⟩
theorem sc_trimmed : FnScope ["machine"] ["machine"] (defScope s_trimmed) := ⟨rfl, rfl, rfl, by decide +kernel, rfl, by decide +kernel, by decide +kernel⟩
theorem sc_moved : FnScope ["states", "more", "state"] ["states", "more"] (defScope s_moved) := ⟨rfl, rfl, rfl, by decide +kernel, rfl, by decide +kernel, by decide +kernel⟩
theorem sc_moved_moves : FnScope ["moves", "more", "p", "letter", "cost", "q"] ["moves", "more"] (defScope s_moved_moves) := ⟨rfl, rfl, rfl, by decide +kernel, rfl, by decide +kernel, by decide +kernel⟩
theorem sc_cheaper : FnScope ["machine", "other", "letters", "states", "starts", "ends", "moves", "rest", "first", "last"] ["machine", "other"] (defScope s_cheaper) := ⟨rfl, rfl, rfl, by decide +kernel, rfl, by decide +kernel, by decide +kernel⟩
theorem sc_restricted_to : FnScope ["machine", "language", "letters", "states", "starts", "ends", "moves", "many", "rows", "p", "letter", "cost", "r", "first", "q", "row"] ["machine", "language"] (defScope s_restricted_to) := ⟨rfl, rfl, rfl, by decide +kernel, rfl, by decide +kernel, by decide +kernel⟩
theorem sc_restricted : FnScope ["machine", "language"] ["machine", "language"] (defScope s_restricted) := ⟨rfl, rfl, rfl, by decide +kernel, rfl, by decide +kernel, by decide +kernel⟩
theorem sc_summed : FnScope ["machine", "other", "many", "rows", "p", "letter", "cost", "r", "q", "own", "price", "s", "first", "last"] ["machine", "other"] (defScope s_summed) := ⟨rfl, rfl, rfl, by decide +kernel, rfl, by decide +kernel, by decide +kernel⟩
theorem sc_repeated_of : FnScope ["machine", "letters", "states", "starts", "ends", "moves", "rows", "p", "letter", "cost", "q", "sources", "goals", "source", "goal"] ["machine"] (defScope s_repeated_of) := ⟨rfl, rfl, rfl, by decide +kernel, rfl, by decide +kernel, by decide +kernel⟩
theorem sc_repeated : FnScope ["machine"] ["machine"] (defScope s_repeated) := ⟨rfl, rfl, rfl, by decide +kernel, rfl, by decide +kernel, by decide +kernel⟩
theorem sc_need_plain_machine : FnScope ["machine"] ["machine"] (defScope s_need_plain_machine) := ⟨rfl, rfl, rfl, by decide +kernel, rfl, by decide +kernel, by decide +kernel⟩
theorem sc_mirrored_machine : FnScope ["machine", "letters", "states", "starts", "ends", "moves", "p", "letter", "cost", "q"] ["machine"] (defScope s_mirrored_machine) := ⟨rfl, rfl, rfl, by decide +kernel, rfl, by decide +kernel, by decide +kernel⟩
theorem sc_scaled : FnScope ["machine", "factor", "letters", "states", "starts", "ends", "moves", "move", "p", "letter", "cost", "q"] ["machine", "factor"] (defScope s_scaled) := ⟨rfl, rfl, rfl, by decide +kernel, rfl, by decide +kernel, by decide +kernel⟩
theorem sc_l_well : FnScope ["script", "cell"] ["script"] (defScope s_l_well) := ⟨rfl, rfl, rfl, by decide +kernel, rfl, by decide +kernel, by decide +kernel⟩
theorem sc_l_draw : FnScope ["well", "many", "cell", "weight", "found"] ["well", "many"] (defScope s_l_draw) := ⟨rfl, rfl, rfl, by decide +kernel, rfl, by decide +kernel, by decide +kernel⟩
theorem sc_l_machine : FnScope ["well", "letters", "most", "resets", "many", "rare", "moves", "p", "a", "q", "starts", "ends"] ["well", "letters", "most", "resets"] (defScope s_l_machine) := ⟨rfl, rfl, rfl, by decide +kernel, rfl, by decide +kernel, by decide +kernel⟩
theorem sc_l_language : FnScope ["well", "letters", "most", "many", "rows", "state", "letter"] ["well", "letters", "most"] (defScope s_l_language) := ⟨rfl, rfl, rfl, by decide +kernel, rfl, by decide +kernel, by decide +kernel⟩
theorem sc_l_below : FnScope ["first", "second", "found"] ["first", "second"] (defScope s_l_below) := ⟨rfl, rfl, rfl, by decide +kernel, rfl, by decide +kernel, by decide +kernel⟩
theorem sc_l_alike_growth : FnScope ["first", "second", "found"] ["first", "second"] (defScope s_l_alike_growth) := ⟨rfl, rfl, rfl, by decide +kernel, rfl, by decide +kernel, by decide +kernel⟩
theorem sc_l_plain_pairs : FnScope ["machine", "other"] ["machine", "other"] (defScope s_l_plain_pairs) := ⟨rfl, rfl, rfl, by decide +kernel, rfl, by decide +kernel, by decide +kernel⟩
theorem sc_law : FnScope ["script", "well", "letters", "is_plain", "machine", "other", "pairs", "shape", "first", "second"] ["script"] (defScope s_law) := ⟨rfl, rfl, rfl, by decide +kernel, rfl, by decide +kernel, by decide +kernel⟩
structure Txt (K : PySem.W.Frag) (mg : Str → Option Value) where
  O_PairClosure : ClAt K mg "PairClosure"
  A_is_int : At K mg "is_int" s_is_int ["thing"]
  A_within : At K mg "within" s_within ["thing", "low", "high"]
  A_is_row : At K mg "is_row" s_is_row ["thing", "low", "high"]
  A_is_low_name : At K mg "is_low_name" s_is_low_name ["thing"]
  A_is_ascending : At K mg "is_ascending" s_is_ascending ["thing"]
  A_are_indexes : At K mg "are_indexes" s_are_indexes ["thing", "many"]
  A_are_letters : At K mg "are_letters" s_are_letters ["thing"]
  A_is_move : At K mg "is_move" s_is_move ["many_letters", "states", "thing"]
  A_is_any_machine : At K mg "is_any_machine" s_is_any_machine ["thing"]
  A_is_machine : At K mg "is_machine" s_is_machine ["thing"]
  A_need_machine : At K mg "need_machine" s_need_machine ["machine"]
  A_need_other_machine : At K mg "need_other_machine" s_need_other_machine ["other"]
  A_need_alike : At K mg "need_alike" s_need_alike ["letters", "others"]
  A_need_both_machines : At K mg "need_both_machines" s_need_both_machines ["machine", "other"]
  A_has_reset : At K mg "has_reset" s_has_reset ["machine"]
  A_need_plain : At K mg "need_plain" s_need_plain ["machine"]
  A_made_machine : At K mg "made_machine" s_made_machine ["letters", "states", "starts", "ends", "moves"]
  A_on : At K mg "on" s_on ["x", "y"]
  A_times : At K mg "times" s_times ["first", "second"]
  A_best_way : At K mg "best_way" s_best_way ["row", "column"]
  A_is_own_square : At K mg "is_own_square" s_is_own_square ["matrix"]
  A_held : At K mg "held" s_held ["x"]
  A_pumped : At K mg "pumped" s_pumped ["matrix"]
  A_class_of_cost : At K mg "class_of_cost" s_class_of_cost ["cost"]
  A_unit : At K mg "unit" s_unit ["size"]
  A_matrices_of_letters : At K mg "matrices_of_letters" s_matrices_of_letters ["machine"]
  A_need_two_machines : At K mg "need_two_machines" s_need_two_machines ["first", "second"]
  A_pair_times : At K mg "pair_times" s_pair_times ["one", "other"]
  A_is_own_pair : At K mg "is_own_pair" s_is_own_pair ["pair"]
  A_pair_pumped : At K mg "pair_pumped" s_pair_pumped ["pair"]
  A_pairs_of_letters : At K mg "pairs_of_letters" s_pairs_of_letters ["first", "second"]
  A_unit_pair : At K mg "unit_pair" s_unit_pair ["first", "second"]
  A_is_against : At K mg "is_against" s_is_against ["first", "second", "pair"]
  A_PairClosure_init : MeAt K O_PairClosure.C "__init__" "PairClosure.__init__" s_PairClosure_init ["self", "first", "second", "most"]
  A_PairClosure_add : MeAt K O_PairClosure.C "add" "PairClosure.add" s_PairClosure_add ["self", "pair", "entry"]
  A_PairClosure_make : MeAt K O_PairClosure.C "make" "PairClosure.make" s_PairClosure_make ["self", "pair", "entry"]
  A_PairClosure_multiply : MeAt K O_PairClosure.C "multiply" "PairClosure.multiply" s_PairClosure_multiply ["self"]
  A_closure_of_two : At K mg "closure_of_two" s_closure_of_two ["first", "second"]
  A_first_against : At K mg "first_against" s_first_against ["first", "second", "closure"]
  A_is_below_inside : At K mg "is_below_inside" s_is_below_inside ["first", "second"]
  A_is_below : At K mg "is_below" s_is_below ["first", "second"]
  A_grow_alike : At K mg "grow_alike" s_grow_alike ["first", "second"]
  A_is_language : At K mg "is_language" s_is_language ["thing"]
  A_need_language : At K mg "need_language" s_need_language ["language"]
  A_spread_over : At K mg "spread_over" s_spread_over ["states", "nexts"]
  A_trimmed_of : At K mg "trimmed_of" s_trimmed_of ["machine"]
  A_trimmed : At K mg "trimmed" s_trimmed ["machine"]
  A_moved : At K mg "moved" s_moved ["states", "more"]
  A_moved_moves : At K mg "moved_moves" s_moved_moves ["moves", "more"]
  A_cheaper : At K mg "cheaper" s_cheaper ["machine", "other"]
  A_restricted_to : At K mg "restricted_to" s_restricted_to ["machine", "language"]
  A_restricted : At K mg "restricted" s_restricted ["machine", "language"]
  A_summed : At K mg "summed" s_summed ["machine", "other"]
  A_repeated_of : At K mg "repeated_of" s_repeated_of ["machine"]
  A_repeated : At K mg "repeated" s_repeated ["machine"]
  A_need_plain_machine : At K mg "need_plain_machine" s_need_plain_machine ["machine"]
  A_mirrored_machine : At K mg "mirrored_machine" s_mirrored_machine ["machine"]
  A_scaled : At K mg "scaled" s_scaled ["machine", "factor"]
  A_l_well : At K mg "_law_well" s_l_well ["script"]
  A_l_draw : At K mg "_law_draw" s_l_draw ["well", "many"]
  A_l_machine : At K mg "_law_machine" s_l_machine ["well", "letters", "most", "resets"]
  A_l_language : At K mg "_law_language" s_l_language ["well", "letters", "most"]
  A_l_below : At K mg "_law_below" s_l_below ["first", "second"]
  A_l_alike_growth : At K mg "_law_alike_growth" s_l_alike_growth ["first", "second"]
  A_l_plain_pairs : At K mg "_law_plain_pairs" s_l_plain_pairs ["machine", "other"]
  A_law : At K mg "law" s_law ["script"]
  f_PairClosure_most : NoAttr K O_PairClosure.C "most"
  f_PairClosure_found : NoAttr K O_PairClosure.C "found"
  f_PairClosure_entries : NoAttr K O_PairClosure.C "entries"
  f_PairClosure_numbers : NoAttr K O_PairClosure.C "numbers"
  f_PairClosure_makers : NoAttr K O_PairClosure.C "makers"
  f_PairClosure_met : NoAttr K O_PairClosure.C "met"
  X_CostError : ExAt K mg "CostError"
  X_BadMachine : ExAt K mg "BadMachine"
  X_BadOther : ExAt K mg "BadOther"
  X_Unlike : ExAt K mg "Unlike"
  X_BadLanguage : ExAt K mg "BadLanguage"
  X_NotPlain : ExAt K mg "NotPlain"
  X_BadFactor : ExAt K mg "BadFactor"
  X_TooGreat : ExAt K mg "TooGreat"
  e_TooGreat_TooGreat : PySem.W.subIn K (.ref X_TooGreat.C) (.ref X_TooGreat.C) = some true
  n_isinstance : mg "isinstance" = none
  n_len : mg "len" = none
  n_all : mg "all" = none
  n_any : mg "any" = none
  n_min : mg "min" = none
  n_max : mg "max" = none
  n_sorted : mg "sorted" = none
  n_zip : mg "zip" = none
  n_enumerate : mg "enumerate" = none
  n_range : mg "range" = none
  n_int : mg "int" = none
  n_str : mg "str" = none
  n_bool : mg "bool" = none
  n_tuple : mg "tuple" = none
  n_list : mg "list" = none
  n_set : mg "set" = none
  n_abs : mg "abs" = none
  tk_SMALL_LETTERS : Tok
  v_SMALL_LETTERS : mg "SMALL_LETTERS" = some (.str (PySem.Str.ofString "abcdefghijklmnopqrstuvwxyz") tk_SMALL_LETTERS)
  tk_DIGITS : Tok
  v_DIGITS : mg "DIGITS" = some (.str (PySem.Str.ofString "0123456789") tk_DIGITS)
  tk_LONGEST_NAME : Tok
  v_LONGEST_NAME : mg "LONGEST_NAME" = some (.int 10 tk_LONGEST_NAME)
  tk_MOST_LETTERS : Tok
  v_MOST_LETTERS : mg "MOST_LETTERS" = some (.int 6 tk_MOST_LETTERS)
  tk_MOST_STATES : Tok
  v_MOST_STATES : mg "MOST_STATES" = some (.int 12 tk_MOST_STATES)
  tk_MOST_MOVES : Tok
  v_MOST_MOVES : mg "MOST_MOVES" = some (.int 5000 tk_MOST_MOVES)
  tk_MOST_COST : Tok
  v_MOST_COST : mg "MOST_COST" = some (.int 50 tk_MOST_COST)
  tk_RESET_COST : Tok
  v_RESET_COST : mg "RESET_COST" = some (.int (-1) tk_RESET_COST)
  tk_RESET : Tok
  v_RESET : mg "RESET" = some (.int (-1) tk_RESET)
  tk_FREE : Tok
  v_FREE : mg "FREE" = some (.int 0 tk_FREE)
  tk_PAID : Tok
  v_PAID : mg "PAID" = some (.int 1 tk_PAID)
  tk_GROWING : Tok
  v_GROWING : mg "GROWING" = some (.int 2 tk_GROWING)
  tk_NONE : Tok
  v_NONE : mg "NONE" = some (.int 3 tk_NONE)
  tk_MOST_PAIRS : Tok
  v_MOST_PAIRS : mg "MOST_PAIRS" = some (.int 500 tk_MOST_PAIRS)
  tk_MOST_SMALL : Tok
  v_MOST_SMALL : mg "MOST_SMALL" = some (.int 100 tk_MOST_SMALL)
theorem Txt.mk_PairClosure {K : PySem.W.Frag} {mg : Str → Option Value} (T : Txt K mg) : Mk K T.O_PairClosure.C T.A_PairClosure_init.f := ⟨T.O_PairClosure.makes, T.A_PairClosure_init.m.at_, T.A_PairClosure_init.m.fn, T.O_PairClosure.kp⟩
end Kw

set_option maxRecDepth 100000
set_option maxHeartbeats 2000000
namespace Kw
open PySem PySem.Spec PyProof.Rows L2 KD
noncomputable def txt_mk {K : PySem.W.Frag} {h : Heap} {mg : Str → Option Value} (X : K.In h) (G : h.Ns mainGlobals mg)
    {D0 : Addr} (da0 : PySem.W.nsIn K mainGlobals "PairClosure" = some (some (.ref D0))) (dg0 : PySem.W.plainGet K D0 Str.empty = true) (dh0 : PySem.W.hasDictIn K D0 = true) (dp0 : PySem.W.plainOver K D0 = true) (ds0 : PySem.W.findIn K (.ref D0) "__setattr__" = some (some (.builtin "object.__setattr__"))) (dm0 : PySem.W.makesIn K D0 = true) (dk0 : PySem.W.keepIn K (.ref D0) = true)
    (df0_0 : PySem.W.findIn K (.ref D0) "most" = some none)
    (df0_1 : PySem.W.findIn K (.ref D0) "found" = some none)
    (df0_2 : PySem.W.findIn K (.ref D0) "entries" = some none)
    (df0_3 : PySem.W.findIn K (.ref D0) "numbers" = some none)
    (df0_4 : PySem.W.findIn K (.ref D0) "makers" = some none)
    (df0_5 : PySem.W.findIn K (.ref D0) "met" = some none)
    {f0 : Addr} {od0 an0 : Option Addr} {sl0 : Array (Option Value)} {oc0 kV0 dc0 pm0 cd0 ct0 : Value}
    (a0 : PySem.W.nsIn K mainGlobals "is_int" = some (some (.ref f0)))
    (l0 : K.lookup f0 = some ⟨oc0, od0, .func (PySem.W.fnOf "is_int" "is_int" (defArgs s_is_int) (defBody s_is_int) (defScope s_is_int) .none kV0 dc0 pm0 an0 cd0 ct0), sl0⟩) (c0 : PySem.W.codeIn K cd0 "is_int" = true) (k0 : PySem.W.keepIn K (.ref f0) = true)
    {f1 : Addr} {od1 an1 : Option Addr} {sl1 : Array (Option Value)} {oc1 kV1 dc1 pm1 cd1 ct1 : Value}
    (a1 : PySem.W.nsIn K mainGlobals "within" = some (some (.ref f1)))
    (l1 : K.lookup f1 = some ⟨oc1, od1, .func (PySem.W.fnOf "within" "within" (defArgs s_within) (defBody s_within) (defScope s_within) .none kV1 dc1 pm1 an1 cd1 ct1), sl1⟩) (c1 : PySem.W.codeIn K cd1 "within" = true) (k1 : PySem.W.keepIn K (.ref f1) = true)
    {f2 : Addr} {od2 an2 : Option Addr} {sl2 : Array (Option Value)} {oc2 kV2 dc2 pm2 cd2 ct2 : Value}
    (a2 : PySem.W.nsIn K mainGlobals "is_row" = some (some (.ref f2)))
    (l2 : K.lookup f2 = some ⟨oc2, od2, .func (PySem.W.fnOf "is_row" "is_row" (defArgs s_is_row) (defBody s_is_row) (defScope s_is_row) .none kV2 dc2 pm2 an2 cd2 ct2), sl2⟩) (c2 : PySem.W.codeIn K cd2 "is_row" = true) (k2 : PySem.W.keepIn K (.ref f2) = true)
    {f3 : Addr} {od3 an3 : Option Addr} {sl3 : Array (Option Value)} {oc3 kV3 dc3 pm3 cd3 ct3 : Value}
    (a3 : PySem.W.nsIn K mainGlobals "is_low_name" = some (some (.ref f3)))
    (l3 : K.lookup f3 = some ⟨oc3, od3, .func (PySem.W.fnOf "is_low_name" "is_low_name" (defArgs s_is_low_name) (defBody s_is_low_name) (defScope s_is_low_name) .none kV3 dc3 pm3 an3 cd3 ct3), sl3⟩) (c3 : PySem.W.codeIn K cd3 "is_low_name" = true) (k3 : PySem.W.keepIn K (.ref f3) = true)
    {f4 : Addr} {od4 an4 : Option Addr} {sl4 : Array (Option Value)} {oc4 kV4 dc4 pm4 cd4 ct4 : Value}
    (a4 : PySem.W.nsIn K mainGlobals "is_ascending" = some (some (.ref f4)))
    (l4 : K.lookup f4 = some ⟨oc4, od4, .func (PySem.W.fnOf "is_ascending" "is_ascending" (defArgs s_is_ascending) (defBody s_is_ascending) (defScope s_is_ascending) .none kV4 dc4 pm4 an4 cd4 ct4), sl4⟩) (c4 : PySem.W.codeIn K cd4 "is_ascending" = true) (k4 : PySem.W.keepIn K (.ref f4) = true)
    {f5 : Addr} {od5 an5 : Option Addr} {sl5 : Array (Option Value)} {oc5 kV5 dc5 pm5 cd5 ct5 : Value}
    (a5 : PySem.W.nsIn K mainGlobals "are_indexes" = some (some (.ref f5)))
    (l5 : K.lookup f5 = some ⟨oc5, od5, .func (PySem.W.fnOf "are_indexes" "are_indexes" (defArgs s_are_indexes) (defBody s_are_indexes) (defScope s_are_indexes) .none kV5 dc5 pm5 an5 cd5 ct5), sl5⟩) (c5 : PySem.W.codeIn K cd5 "are_indexes" = true) (k5 : PySem.W.keepIn K (.ref f5) = true)
    {f6 : Addr} {od6 an6 : Option Addr} {sl6 : Array (Option Value)} {oc6 kV6 dc6 pm6 cd6 ct6 : Value}
    (a6 : PySem.W.nsIn K mainGlobals "are_letters" = some (some (.ref f6)))
    (l6 : K.lookup f6 = some ⟨oc6, od6, .func (PySem.W.fnOf "are_letters" "are_letters" (defArgs s_are_letters) (defBody s_are_letters) (defScope s_are_letters) .none kV6 dc6 pm6 an6 cd6 ct6), sl6⟩) (c6 : PySem.W.codeIn K cd6 "are_letters" = true) (k6 : PySem.W.keepIn K (.ref f6) = true)
    {f7 : Addr} {od7 an7 : Option Addr} {sl7 : Array (Option Value)} {oc7 kV7 dc7 pm7 cd7 ct7 : Value}
    (a7 : PySem.W.nsIn K mainGlobals "is_move" = some (some (.ref f7)))
    (l7 : K.lookup f7 = some ⟨oc7, od7, .func (PySem.W.fnOf "is_move" "is_move" (defArgs s_is_move) (defBody s_is_move) (defScope s_is_move) .none kV7 dc7 pm7 an7 cd7 ct7), sl7⟩) (c7 : PySem.W.codeIn K cd7 "is_move" = true) (k7 : PySem.W.keepIn K (.ref f7) = true)
    {f8 : Addr} {od8 an8 : Option Addr} {sl8 : Array (Option Value)} {oc8 kV8 dc8 pm8 cd8 ct8 : Value}
    (a8 : PySem.W.nsIn K mainGlobals "is_any_machine" = some (some (.ref f8)))
    (l8 : K.lookup f8 = some ⟨oc8, od8, .func (PySem.W.fnOf "is_any_machine" "is_any_machine" (defArgs s_is_any_machine) (defBody s_is_any_machine) (defScope s_is_any_machine) .none kV8 dc8 pm8 an8 cd8 ct8), sl8⟩) (c8 : PySem.W.codeIn K cd8 "is_any_machine" = true) (k8 : PySem.W.keepIn K (.ref f8) = true)
    {f9 : Addr} {od9 an9 : Option Addr} {sl9 : Array (Option Value)} {oc9 kV9 dc9 pm9 cd9 ct9 : Value}
    (a9 : PySem.W.nsIn K mainGlobals "is_machine" = some (some (.ref f9)))
    (l9 : K.lookup f9 = some ⟨oc9, od9, .func (PySem.W.fnOf "is_machine" "is_machine" (defArgs s_is_machine) (defBody s_is_machine) (defScope s_is_machine) .none kV9 dc9 pm9 an9 cd9 ct9), sl9⟩) (c9 : PySem.W.codeIn K cd9 "is_machine" = true) (k9 : PySem.W.keepIn K (.ref f9) = true)
    {f10 : Addr} {od10 an10 : Option Addr} {sl10 : Array (Option Value)} {oc10 kV10 dc10 pm10 cd10 ct10 : Value}
    (a10 : PySem.W.nsIn K mainGlobals "need_machine" = some (some (.ref f10)))
    (l10 : K.lookup f10 = some ⟨oc10, od10, .func (PySem.W.fnOf "need_machine" "need_machine" (defArgs s_need_machine) (defBody s_need_machine) (defScope s_need_machine) .none kV10 dc10 pm10 an10 cd10 ct10), sl10⟩) (c10 : PySem.W.codeIn K cd10 "need_machine" = true) (k10 : PySem.W.keepIn K (.ref f10) = true)
    {f11 : Addr} {od11 an11 : Option Addr} {sl11 : Array (Option Value)} {oc11 kV11 dc11 pm11 cd11 ct11 : Value}
    (a11 : PySem.W.nsIn K mainGlobals "need_other_machine" = some (some (.ref f11)))
    (l11 : K.lookup f11 = some ⟨oc11, od11, .func (PySem.W.fnOf "need_other_machine" "need_other_machine" (defArgs s_need_other_machine) (defBody s_need_other_machine) (defScope s_need_other_machine) .none kV11 dc11 pm11 an11 cd11 ct11), sl11⟩) (c11 : PySem.W.codeIn K cd11 "need_other_machine" = true) (k11 : PySem.W.keepIn K (.ref f11) = true)
    {f12 : Addr} {od12 an12 : Option Addr} {sl12 : Array (Option Value)} {oc12 kV12 dc12 pm12 cd12 ct12 : Value}
    (a12 : PySem.W.nsIn K mainGlobals "need_alike" = some (some (.ref f12)))
    (l12 : K.lookup f12 = some ⟨oc12, od12, .func (PySem.W.fnOf "need_alike" "need_alike" (defArgs s_need_alike) (defBody s_need_alike) (defScope s_need_alike) .none kV12 dc12 pm12 an12 cd12 ct12), sl12⟩) (c12 : PySem.W.codeIn K cd12 "need_alike" = true) (k12 : PySem.W.keepIn K (.ref f12) = true)
    {f13 : Addr} {od13 an13 : Option Addr} {sl13 : Array (Option Value)} {oc13 kV13 dc13 pm13 cd13 ct13 : Value}
    (a13 : PySem.W.nsIn K mainGlobals "need_both_machines" = some (some (.ref f13)))
    (l13 : K.lookup f13 = some ⟨oc13, od13, .func (PySem.W.fnOf "need_both_machines" "need_both_machines" (defArgs s_need_both_machines) (defBody s_need_both_machines) (defScope s_need_both_machines) .none kV13 dc13 pm13 an13 cd13 ct13), sl13⟩) (c13 : PySem.W.codeIn K cd13 "need_both_machines" = true) (k13 : PySem.W.keepIn K (.ref f13) = true)
    {f14 : Addr} {od14 an14 : Option Addr} {sl14 : Array (Option Value)} {oc14 kV14 dc14 pm14 cd14 ct14 : Value}
    (a14 : PySem.W.nsIn K mainGlobals "has_reset" = some (some (.ref f14)))
    (l14 : K.lookup f14 = some ⟨oc14, od14, .func (PySem.W.fnOf "has_reset" "has_reset" (defArgs s_has_reset) (defBody s_has_reset) (defScope s_has_reset) .none kV14 dc14 pm14 an14 cd14 ct14), sl14⟩) (c14 : PySem.W.codeIn K cd14 "has_reset" = true) (k14 : PySem.W.keepIn K (.ref f14) = true)
    {f15 : Addr} {od15 an15 : Option Addr} {sl15 : Array (Option Value)} {oc15 kV15 dc15 pm15 cd15 ct15 : Value}
    (a15 : PySem.W.nsIn K mainGlobals "need_plain" = some (some (.ref f15)))
    (l15 : K.lookup f15 = some ⟨oc15, od15, .func (PySem.W.fnOf "need_plain" "need_plain" (defArgs s_need_plain) (defBody s_need_plain) (defScope s_need_plain) .none kV15 dc15 pm15 an15 cd15 ct15), sl15⟩) (c15 : PySem.W.codeIn K cd15 "need_plain" = true) (k15 : PySem.W.keepIn K (.ref f15) = true)
    {f16 : Addr} {od16 an16 : Option Addr} {sl16 : Array (Option Value)} {oc16 kV16 dc16 pm16 cd16 ct16 : Value}
    (a16 : PySem.W.nsIn K mainGlobals "made_machine" = some (some (.ref f16)))
    (l16 : K.lookup f16 = some ⟨oc16, od16, .func (PySem.W.fnOf "made_machine" "made_machine" (defArgs s_made_machine) (defBody s_made_machine) (defScope s_made_machine) .none kV16 dc16 pm16 an16 cd16 ct16), sl16⟩) (c16 : PySem.W.codeIn K cd16 "made_machine" = true) (k16 : PySem.W.keepIn K (.ref f16) = true)
    {f17 : Addr} {od17 an17 : Option Addr} {sl17 : Array (Option Value)} {oc17 kV17 dc17 pm17 cd17 ct17 : Value}
    (a17 : PySem.W.nsIn K mainGlobals "on" = some (some (.ref f17)))
    (l17 : K.lookup f17 = some ⟨oc17, od17, .func (PySem.W.fnOf "on" "on" (defArgs s_on) (defBody s_on) (defScope s_on) .none kV17 dc17 pm17 an17 cd17 ct17), sl17⟩) (c17 : PySem.W.codeIn K cd17 "on" = true) (k17 : PySem.W.keepIn K (.ref f17) = true)
    {f18 : Addr} {od18 an18 : Option Addr} {sl18 : Array (Option Value)} {oc18 kV18 dc18 pm18 cd18 ct18 : Value}
    (a18 : PySem.W.nsIn K mainGlobals "times" = some (some (.ref f18)))
    (l18 : K.lookup f18 = some ⟨oc18, od18, .func (PySem.W.fnOf "times" "times" (defArgs s_times) (defBody s_times) (defScope s_times) .none kV18 dc18 pm18 an18 cd18 ct18), sl18⟩) (c18 : PySem.W.codeIn K cd18 "times" = true) (k18 : PySem.W.keepIn K (.ref f18) = true)
    {f19 : Addr} {od19 an19 : Option Addr} {sl19 : Array (Option Value)} {oc19 kV19 dc19 pm19 cd19 ct19 : Value}
    (a19 : PySem.W.nsIn K mainGlobals "best_way" = some (some (.ref f19)))
    (l19 : K.lookup f19 = some ⟨oc19, od19, .func (PySem.W.fnOf "best_way" "best_way" (defArgs s_best_way) (defBody s_best_way) (defScope s_best_way) .none kV19 dc19 pm19 an19 cd19 ct19), sl19⟩) (c19 : PySem.W.codeIn K cd19 "best_way" = true) (k19 : PySem.W.keepIn K (.ref f19) = true)
    {f20 : Addr} {od20 an20 : Option Addr} {sl20 : Array (Option Value)} {oc20 kV20 dc20 pm20 cd20 ct20 : Value}
    (a20 : PySem.W.nsIn K mainGlobals "is_own_square" = some (some (.ref f20)))
    (l20 : K.lookup f20 = some ⟨oc20, od20, .func (PySem.W.fnOf "is_own_square" "is_own_square" (defArgs s_is_own_square) (defBody s_is_own_square) (defScope s_is_own_square) .none kV20 dc20 pm20 an20 cd20 ct20), sl20⟩) (c20 : PySem.W.codeIn K cd20 "is_own_square" = true) (k20 : PySem.W.keepIn K (.ref f20) = true)
    {f21 : Addr} {od21 an21 : Option Addr} {sl21 : Array (Option Value)} {oc21 kV21 dc21 pm21 cd21 ct21 : Value}
    (a21 : PySem.W.nsIn K mainGlobals "held" = some (some (.ref f21)))
    (l21 : K.lookup f21 = some ⟨oc21, od21, .func (PySem.W.fnOf "held" "held" (defArgs s_held) (defBody s_held) (defScope s_held) .none kV21 dc21 pm21 an21 cd21 ct21), sl21⟩) (c21 : PySem.W.codeIn K cd21 "held" = true) (k21 : PySem.W.keepIn K (.ref f21) = true)
    {f22 : Addr} {od22 an22 : Option Addr} {sl22 : Array (Option Value)} {oc22 kV22 dc22 pm22 cd22 ct22 : Value}
    (a22 : PySem.W.nsIn K mainGlobals "pumped" = some (some (.ref f22)))
    (l22 : K.lookup f22 = some ⟨oc22, od22, .func (PySem.W.fnOf "pumped" "pumped" (defArgs s_pumped) (defBody s_pumped) (defScope s_pumped) .none kV22 dc22 pm22 an22 cd22 ct22), sl22⟩) (c22 : PySem.W.codeIn K cd22 "pumped" = true) (k22 : PySem.W.keepIn K (.ref f22) = true)
    {f23 : Addr} {od23 an23 : Option Addr} {sl23 : Array (Option Value)} {oc23 kV23 dc23 pm23 cd23 ct23 : Value}
    (a23 : PySem.W.nsIn K mainGlobals "class_of_cost" = some (some (.ref f23)))
    (l23 : K.lookup f23 = some ⟨oc23, od23, .func (PySem.W.fnOf "class_of_cost" "class_of_cost" (defArgs s_class_of_cost) (defBody s_class_of_cost) (defScope s_class_of_cost) .none kV23 dc23 pm23 an23 cd23 ct23), sl23⟩) (c23 : PySem.W.codeIn K cd23 "class_of_cost" = true) (k23 : PySem.W.keepIn K (.ref f23) = true)
    {f24 : Addr} {od24 an24 : Option Addr} {sl24 : Array (Option Value)} {oc24 kV24 dc24 pm24 cd24 ct24 : Value}
    (a24 : PySem.W.nsIn K mainGlobals "unit" = some (some (.ref f24)))
    (l24 : K.lookup f24 = some ⟨oc24, od24, .func (PySem.W.fnOf "unit" "unit" (defArgs s_unit) (defBody s_unit) (defScope s_unit) .none kV24 dc24 pm24 an24 cd24 ct24), sl24⟩) (c24 : PySem.W.codeIn K cd24 "unit" = true) (k24 : PySem.W.keepIn K (.ref f24) = true)
    {f25 : Addr} {od25 an25 : Option Addr} {sl25 : Array (Option Value)} {oc25 kV25 dc25 pm25 cd25 ct25 : Value}
    (a25 : PySem.W.nsIn K mainGlobals "matrices_of_letters" = some (some (.ref f25)))
    (l25 : K.lookup f25 = some ⟨oc25, od25, .func (PySem.W.fnOf "matrices_of_letters" "matrices_of_letters" (defArgs s_matrices_of_letters) (defBody s_matrices_of_letters) (defScope s_matrices_of_letters) .none kV25 dc25 pm25 an25 cd25 ct25), sl25⟩) (c25 : PySem.W.codeIn K cd25 "matrices_of_letters" = true) (k25 : PySem.W.keepIn K (.ref f25) = true)
    {f26 : Addr} {od26 an26 : Option Addr} {sl26 : Array (Option Value)} {oc26 kV26 dc26 pm26 cd26 ct26 : Value}
    (a26 : PySem.W.nsIn K mainGlobals "need_two_machines" = some (some (.ref f26)))
    (l26 : K.lookup f26 = some ⟨oc26, od26, .func (PySem.W.fnOf "need_two_machines" "need_two_machines" (defArgs s_need_two_machines) (defBody s_need_two_machines) (defScope s_need_two_machines) .none kV26 dc26 pm26 an26 cd26 ct26), sl26⟩) (c26 : PySem.W.codeIn K cd26 "need_two_machines" = true) (k26 : PySem.W.keepIn K (.ref f26) = true)
    {f27 : Addr} {od27 an27 : Option Addr} {sl27 : Array (Option Value)} {oc27 kV27 dc27 pm27 cd27 ct27 : Value}
    (a27 : PySem.W.nsIn K mainGlobals "pair_times" = some (some (.ref f27)))
    (l27 : K.lookup f27 = some ⟨oc27, od27, .func (PySem.W.fnOf "pair_times" "pair_times" (defArgs s_pair_times) (defBody s_pair_times) (defScope s_pair_times) .none kV27 dc27 pm27 an27 cd27 ct27), sl27⟩) (c27 : PySem.W.codeIn K cd27 "pair_times" = true) (k27 : PySem.W.keepIn K (.ref f27) = true)
    {f28 : Addr} {od28 an28 : Option Addr} {sl28 : Array (Option Value)} {oc28 kV28 dc28 pm28 cd28 ct28 : Value}
    (a28 : PySem.W.nsIn K mainGlobals "is_own_pair" = some (some (.ref f28)))
    (l28 : K.lookup f28 = some ⟨oc28, od28, .func (PySem.W.fnOf "is_own_pair" "is_own_pair" (defArgs s_is_own_pair) (defBody s_is_own_pair) (defScope s_is_own_pair) .none kV28 dc28 pm28 an28 cd28 ct28), sl28⟩) (c28 : PySem.W.codeIn K cd28 "is_own_pair" = true) (k28 : PySem.W.keepIn K (.ref f28) = true)
    {f29 : Addr} {od29 an29 : Option Addr} {sl29 : Array (Option Value)} {oc29 kV29 dc29 pm29 cd29 ct29 : Value}
    (a29 : PySem.W.nsIn K mainGlobals "pair_pumped" = some (some (.ref f29)))
    (l29 : K.lookup f29 = some ⟨oc29, od29, .func (PySem.W.fnOf "pair_pumped" "pair_pumped" (defArgs s_pair_pumped) (defBody s_pair_pumped) (defScope s_pair_pumped) .none kV29 dc29 pm29 an29 cd29 ct29), sl29⟩) (c29 : PySem.W.codeIn K cd29 "pair_pumped" = true) (k29 : PySem.W.keepIn K (.ref f29) = true)
    {f30 : Addr} {od30 an30 : Option Addr} {sl30 : Array (Option Value)} {oc30 kV30 dc30 pm30 cd30 ct30 : Value}
    (a30 : PySem.W.nsIn K mainGlobals "pairs_of_letters" = some (some (.ref f30)))
    (l30 : K.lookup f30 = some ⟨oc30, od30, .func (PySem.W.fnOf "pairs_of_letters" "pairs_of_letters" (defArgs s_pairs_of_letters) (defBody s_pairs_of_letters) (defScope s_pairs_of_letters) .none kV30 dc30 pm30 an30 cd30 ct30), sl30⟩) (c30 : PySem.W.codeIn K cd30 "pairs_of_letters" = true) (k30 : PySem.W.keepIn K (.ref f30) = true)
    {f31 : Addr} {od31 an31 : Option Addr} {sl31 : Array (Option Value)} {oc31 kV31 dc31 pm31 cd31 ct31 : Value}
    (a31 : PySem.W.nsIn K mainGlobals "unit_pair" = some (some (.ref f31)))
    (l31 : K.lookup f31 = some ⟨oc31, od31, .func (PySem.W.fnOf "unit_pair" "unit_pair" (defArgs s_unit_pair) (defBody s_unit_pair) (defScope s_unit_pair) .none kV31 dc31 pm31 an31 cd31 ct31), sl31⟩) (c31 : PySem.W.codeIn K cd31 "unit_pair" = true) (k31 : PySem.W.keepIn K (.ref f31) = true)
    {f32 : Addr} {od32 an32 : Option Addr} {sl32 : Array (Option Value)} {oc32 kV32 dc32 pm32 cd32 ct32 : Value}
    (a32 : PySem.W.nsIn K mainGlobals "is_against" = some (some (.ref f32)))
    (l32 : K.lookup f32 = some ⟨oc32, od32, .func (PySem.W.fnOf "is_against" "is_against" (defArgs s_is_against) (defBody s_is_against) (defScope s_is_against) .none kV32 dc32 pm32 an32 cd32 ct32), sl32⟩) (c32 : PySem.W.codeIn K cd32 "is_against" = true) (k32 : PySem.W.keepIn K (.ref f32) = true)
    {f33 : Addr} {od33 an33 : Option Addr} {sl33 : Array (Option Value)} {oc33 kV33 dc33 pm33 cd33 ct33 : Value}
    (a33 : PySem.W.findIn K (.ref D0) "__init__" = some (some (.ref f33))) (i33 : PySem.W.isFn K (.ref f33) = true)
    (l33 : K.lookup f33 = some ⟨oc33, od33, .func (PySem.W.fnOf "__init__" "PairClosure.__init__" (defArgs s_PairClosure_init) (defBody s_PairClosure_init) (defScope s_PairClosure_init) .none kV33 dc33 pm33 an33 cd33 ct33), sl33⟩) (c33 : PySem.W.codeIn K cd33 "PairClosure.__init__" = true) (k33 : PySem.W.keepIn K (.ref f33) = true)
    {f34 : Addr} {od34 an34 : Option Addr} {sl34 : Array (Option Value)} {oc34 kV34 dc34 pm34 cd34 ct34 : Value}
    (a34 : PySem.W.findIn K (.ref D0) "add" = some (some (.ref f34))) (i34 : PySem.W.isFn K (.ref f34) = true)
    (l34 : K.lookup f34 = some ⟨oc34, od34, .func (PySem.W.fnOf "add" "PairClosure.add" (defArgs s_PairClosure_add) (defBody s_PairClosure_add) (defScope s_PairClosure_add) .none kV34 dc34 pm34 an34 cd34 ct34), sl34⟩) (c34 : PySem.W.codeIn K cd34 "PairClosure.add" = true) (k34 : PySem.W.keepIn K (.ref f34) = true)
    {f35 : Addr} {od35 an35 : Option Addr} {sl35 : Array (Option Value)} {oc35 kV35 dc35 pm35 cd35 ct35 : Value}
    (a35 : PySem.W.findIn K (.ref D0) "make" = some (some (.ref f35))) (i35 : PySem.W.isFn K (.ref f35) = true)
    (l35 : K.lookup f35 = some ⟨oc35, od35, .func (PySem.W.fnOf "make" "PairClosure.make" (defArgs s_PairClosure_make) (defBody s_PairClosure_make) (defScope s_PairClosure_make) .none kV35 dc35 pm35 an35 cd35 ct35), sl35⟩) (c35 : PySem.W.codeIn K cd35 "PairClosure.make" = true) (k35 : PySem.W.keepIn K (.ref f35) = true)
    {f36 : Addr} {od36 an36 : Option Addr} {sl36 : Array (Option Value)} {oc36 kV36 dc36 pm36 cd36 ct36 : Value}
    (a36 : PySem.W.findIn K (.ref D0) "multiply" = some (some (.ref f36))) (i36 : PySem.W.isFn K (.ref f36) = true)
    (l36 : K.lookup f36 = some ⟨oc36, od36, .func (PySem.W.fnOf "multiply" "PairClosure.multiply" (defArgs s_PairClosure_multiply) (defBody s_PairClosure_multiply) (defScope s_PairClosure_multiply) .none kV36 dc36 pm36 an36 cd36 ct36), sl36⟩) (c36 : PySem.W.codeIn K cd36 "PairClosure.multiply" = true) (k36 : PySem.W.keepIn K (.ref f36) = true)
    {f37 : Addr} {od37 an37 : Option Addr} {sl37 : Array (Option Value)} {oc37 kV37 dc37 pm37 cd37 ct37 : Value}
    (a37 : PySem.W.nsIn K mainGlobals "closure_of_two" = some (some (.ref f37)))
    (l37 : K.lookup f37 = some ⟨oc37, od37, .func (PySem.W.fnOf "closure_of_two" "closure_of_two" (defArgs s_closure_of_two) (defBody s_closure_of_two) (defScope s_closure_of_two) .none kV37 dc37 pm37 an37 cd37 ct37), sl37⟩) (c37 : PySem.W.codeIn K cd37 "closure_of_two" = true) (k37 : PySem.W.keepIn K (.ref f37) = true)
    {f38 : Addr} {od38 an38 : Option Addr} {sl38 : Array (Option Value)} {oc38 kV38 dc38 pm38 cd38 ct38 : Value}
    (a38 : PySem.W.nsIn K mainGlobals "first_against" = some (some (.ref f38)))
    (l38 : K.lookup f38 = some ⟨oc38, od38, .func (PySem.W.fnOf "first_against" "first_against" (defArgs s_first_against) (defBody s_first_against) (defScope s_first_against) .none kV38 dc38 pm38 an38 cd38 ct38), sl38⟩) (c38 : PySem.W.codeIn K cd38 "first_against" = true) (k38 : PySem.W.keepIn K (.ref f38) = true)
    {f39 : Addr} {od39 an39 : Option Addr} {sl39 : Array (Option Value)} {oc39 kV39 dc39 pm39 cd39 ct39 : Value}
    (a39 : PySem.W.nsIn K mainGlobals "is_below_inside" = some (some (.ref f39)))
    (l39 : K.lookup f39 = some ⟨oc39, od39, .func (PySem.W.fnOf "is_below_inside" "is_below_inside" (defArgs s_is_below_inside) (defBody s_is_below_inside) (defScope s_is_below_inside) .none kV39 dc39 pm39 an39 cd39 ct39), sl39⟩) (c39 : PySem.W.codeIn K cd39 "is_below_inside" = true) (k39 : PySem.W.keepIn K (.ref f39) = true)
    {f40 : Addr} {od40 an40 : Option Addr} {sl40 : Array (Option Value)} {oc40 kV40 dc40 pm40 cd40 ct40 : Value}
    (a40 : PySem.W.nsIn K mainGlobals "is_below" = some (some (.ref f40)))
    (l40 : K.lookup f40 = some ⟨oc40, od40, .func (PySem.W.fnOf "is_below" "is_below" (defArgs s_is_below) (defBody s_is_below) (defScope s_is_below) .none kV40 dc40 pm40 an40 cd40 ct40), sl40⟩) (c40 : PySem.W.codeIn K cd40 "is_below" = true) (k40 : PySem.W.keepIn K (.ref f40) = true)
    {f41 : Addr} {od41 an41 : Option Addr} {sl41 : Array (Option Value)} {oc41 kV41 dc41 pm41 cd41 ct41 : Value}
    (a41 : PySem.W.nsIn K mainGlobals "grow_alike" = some (some (.ref f41)))
    (l41 : K.lookup f41 = some ⟨oc41, od41, .func (PySem.W.fnOf "grow_alike" "grow_alike" (defArgs s_grow_alike) (defBody s_grow_alike) (defScope s_grow_alike) .none kV41 dc41 pm41 an41 cd41 ct41), sl41⟩) (c41 : PySem.W.codeIn K cd41 "grow_alike" = true) (k41 : PySem.W.keepIn K (.ref f41) = true)
    {f42 : Addr} {od42 an42 : Option Addr} {sl42 : Array (Option Value)} {oc42 kV42 dc42 pm42 cd42 ct42 : Value}
    (a42 : PySem.W.nsIn K mainGlobals "is_language" = some (some (.ref f42)))
    (l42 : K.lookup f42 = some ⟨oc42, od42, .func (PySem.W.fnOf "is_language" "is_language" (defArgs s_is_language) (defBody s_is_language) (defScope s_is_language) .none kV42 dc42 pm42 an42 cd42 ct42), sl42⟩) (c42 : PySem.W.codeIn K cd42 "is_language" = true) (k42 : PySem.W.keepIn K (.ref f42) = true)
    {f43 : Addr} {od43 an43 : Option Addr} {sl43 : Array (Option Value)} {oc43 kV43 dc43 pm43 cd43 ct43 : Value}
    (a43 : PySem.W.nsIn K mainGlobals "need_language" = some (some (.ref f43)))
    (l43 : K.lookup f43 = some ⟨oc43, od43, .func (PySem.W.fnOf "need_language" "need_language" (defArgs s_need_language) (defBody s_need_language) (defScope s_need_language) .none kV43 dc43 pm43 an43 cd43 ct43), sl43⟩) (c43 : PySem.W.codeIn K cd43 "need_language" = true) (k43 : PySem.W.keepIn K (.ref f43) = true)
    {f44 : Addr} {od44 an44 : Option Addr} {sl44 : Array (Option Value)} {oc44 kV44 dc44 pm44 cd44 ct44 : Value}
    (a44 : PySem.W.nsIn K mainGlobals "spread_over" = some (some (.ref f44)))
    (l44 : K.lookup f44 = some ⟨oc44, od44, .func (PySem.W.fnOf "spread_over" "spread_over" (defArgs s_spread_over) (defBody s_spread_over) (defScope s_spread_over) .none kV44 dc44 pm44 an44 cd44 ct44), sl44⟩) (c44 : PySem.W.codeIn K cd44 "spread_over" = true) (k44 : PySem.W.keepIn K (.ref f44) = true)
    {f45 : Addr} {od45 an45 : Option Addr} {sl45 : Array (Option Value)} {oc45 kV45 dc45 pm45 cd45 ct45 : Value}
    (a45 : PySem.W.nsIn K mainGlobals "trimmed_of" = some (some (.ref f45)))
    (l45 : K.lookup f45 = some ⟨oc45, od45, .func (PySem.W.fnOf "trimmed_of" "trimmed_of" (defArgs s_trimmed_of) (defBody s_trimmed_of) (defScope s_trimmed_of) .none kV45 dc45 pm45 an45 cd45 ct45), sl45⟩) (c45 : PySem.W.codeIn K cd45 "trimmed_of" = true) (k45 : PySem.W.keepIn K (.ref f45) = true)
    {f46 : Addr} {od46 an46 : Option Addr} {sl46 : Array (Option Value)} {oc46 kV46 dc46 pm46 cd46 ct46 : Value}
    (a46 : PySem.W.nsIn K mainGlobals "trimmed" = some (some (.ref f46)))
    (l46 : K.lookup f46 = some ⟨oc46, od46, .func (PySem.W.fnOf "trimmed" "trimmed" (defArgs s_trimmed) (defBody s_trimmed) (defScope s_trimmed) .none kV46 dc46 pm46 an46 cd46 ct46), sl46⟩) (c46 : PySem.W.codeIn K cd46 "trimmed" = true) (k46 : PySem.W.keepIn K (.ref f46) = true)
    {f47 : Addr} {od47 an47 : Option Addr} {sl47 : Array (Option Value)} {oc47 kV47 dc47 pm47 cd47 ct47 : Value}
    (a47 : PySem.W.nsIn K mainGlobals "moved" = some (some (.ref f47)))
    (l47 : K.lookup f47 = some ⟨oc47, od47, .func (PySem.W.fnOf "moved" "moved" (defArgs s_moved) (defBody s_moved) (defScope s_moved) .none kV47 dc47 pm47 an47 cd47 ct47), sl47⟩) (c47 : PySem.W.codeIn K cd47 "moved" = true) (k47 : PySem.W.keepIn K (.ref f47) = true)
    {f48 : Addr} {od48 an48 : Option Addr} {sl48 : Array (Option Value)} {oc48 kV48 dc48 pm48 cd48 ct48 : Value}
    (a48 : PySem.W.nsIn K mainGlobals "moved_moves" = some (some (.ref f48)))
    (l48 : K.lookup f48 = some ⟨oc48, od48, .func (PySem.W.fnOf "moved_moves" "moved_moves" (defArgs s_moved_moves) (defBody s_moved_moves) (defScope s_moved_moves) .none kV48 dc48 pm48 an48 cd48 ct48), sl48⟩) (c48 : PySem.W.codeIn K cd48 "moved_moves" = true) (k48 : PySem.W.keepIn K (.ref f48) = true)
    {f49 : Addr} {od49 an49 : Option Addr} {sl49 : Array (Option Value)} {oc49 kV49 dc49 pm49 cd49 ct49 : Value}
    (a49 : PySem.W.nsIn K mainGlobals "cheaper" = some (some (.ref f49)))
    (l49 : K.lookup f49 = some ⟨oc49, od49, .func (PySem.W.fnOf "cheaper" "cheaper" (defArgs s_cheaper) (defBody s_cheaper) (defScope s_cheaper) .none kV49 dc49 pm49 an49 cd49 ct49), sl49⟩) (c49 : PySem.W.codeIn K cd49 "cheaper" = true) (k49 : PySem.W.keepIn K (.ref f49) = true)
    {f50 : Addr} {od50 an50 : Option Addr} {sl50 : Array (Option Value)} {oc50 kV50 dc50 pm50 cd50 ct50 : Value}
    (a50 : PySem.W.nsIn K mainGlobals "restricted_to" = some (some (.ref f50)))
    (l50 : K.lookup f50 = some ⟨oc50, od50, .func (PySem.W.fnOf "restricted_to" "restricted_to" (defArgs s_restricted_to) (defBody s_restricted_to) (defScope s_restricted_to) .none kV50 dc50 pm50 an50 cd50 ct50), sl50⟩) (c50 : PySem.W.codeIn K cd50 "restricted_to" = true) (k50 : PySem.W.keepIn K (.ref f50) = true)
    {f51 : Addr} {od51 an51 : Option Addr} {sl51 : Array (Option Value)} {oc51 kV51 dc51 pm51 cd51 ct51 : Value}
    (a51 : PySem.W.nsIn K mainGlobals "restricted" = some (some (.ref f51)))
    (l51 : K.lookup f51 = some ⟨oc51, od51, .func (PySem.W.fnOf "restricted" "restricted" (defArgs s_restricted) (defBody s_restricted) (defScope s_restricted) .none kV51 dc51 pm51 an51 cd51 ct51), sl51⟩) (c51 : PySem.W.codeIn K cd51 "restricted" = true) (k51 : PySem.W.keepIn K (.ref f51) = true)
    {f52 : Addr} {od52 an52 : Option Addr} {sl52 : Array (Option Value)} {oc52 kV52 dc52 pm52 cd52 ct52 : Value}
    (a52 : PySem.W.nsIn K mainGlobals "summed" = some (some (.ref f52)))
    (l52 : K.lookup f52 = some ⟨oc52, od52, .func (PySem.W.fnOf "summed" "summed" (defArgs s_summed) (defBody s_summed) (defScope s_summed) .none kV52 dc52 pm52 an52 cd52 ct52), sl52⟩) (c52 : PySem.W.codeIn K cd52 "summed" = true) (k52 : PySem.W.keepIn K (.ref f52) = true)
    {f53 : Addr} {od53 an53 : Option Addr} {sl53 : Array (Option Value)} {oc53 kV53 dc53 pm53 cd53 ct53 : Value}
    (a53 : PySem.W.nsIn K mainGlobals "repeated_of" = some (some (.ref f53)))
    (l53 : K.lookup f53 = some ⟨oc53, od53, .func (PySem.W.fnOf "repeated_of" "repeated_of" (defArgs s_repeated_of) (defBody s_repeated_of) (defScope s_repeated_of) .none kV53 dc53 pm53 an53 cd53 ct53), sl53⟩) (c53 : PySem.W.codeIn K cd53 "repeated_of" = true) (k53 : PySem.W.keepIn K (.ref f53) = true)
    {f54 : Addr} {od54 an54 : Option Addr} {sl54 : Array (Option Value)} {oc54 kV54 dc54 pm54 cd54 ct54 : Value}
    (a54 : PySem.W.nsIn K mainGlobals "repeated" = some (some (.ref f54)))
    (l54 : K.lookup f54 = some ⟨oc54, od54, .func (PySem.W.fnOf "repeated" "repeated" (defArgs s_repeated) (defBody s_repeated) (defScope s_repeated) .none kV54 dc54 pm54 an54 cd54 ct54), sl54⟩) (c54 : PySem.W.codeIn K cd54 "repeated" = true) (k54 : PySem.W.keepIn K (.ref f54) = true)
    {f55 : Addr} {od55 an55 : Option Addr} {sl55 : Array (Option Value)} {oc55 kV55 dc55 pm55 cd55 ct55 : Value}
    (a55 : PySem.W.nsIn K mainGlobals "need_plain_machine" = some (some (.ref f55)))
    (l55 : K.lookup f55 = some ⟨oc55, od55, .func (PySem.W.fnOf "need_plain_machine" "need_plain_machine" (defArgs s_need_plain_machine) (defBody s_need_plain_machine) (defScope s_need_plain_machine) .none kV55 dc55 pm55 an55 cd55 ct55), sl55⟩) (c55 : PySem.W.codeIn K cd55 "need_plain_machine" = true) (k55 : PySem.W.keepIn K (.ref f55) = true)
    {f56 : Addr} {od56 an56 : Option Addr} {sl56 : Array (Option Value)} {oc56 kV56 dc56 pm56 cd56 ct56 : Value}
    (a56 : PySem.W.nsIn K mainGlobals "mirrored_machine" = some (some (.ref f56)))
    (l56 : K.lookup f56 = some ⟨oc56, od56, .func (PySem.W.fnOf "mirrored_machine" "mirrored_machine" (defArgs s_mirrored_machine) (defBody s_mirrored_machine) (defScope s_mirrored_machine) .none kV56 dc56 pm56 an56 cd56 ct56), sl56⟩) (c56 : PySem.W.codeIn K cd56 "mirrored_machine" = true) (k56 : PySem.W.keepIn K (.ref f56) = true)
    {f57 : Addr} {od57 an57 : Option Addr} {sl57 : Array (Option Value)} {oc57 kV57 dc57 pm57 cd57 ct57 : Value}
    (a57 : PySem.W.nsIn K mainGlobals "scaled" = some (some (.ref f57)))
    (l57 : K.lookup f57 = some ⟨oc57, od57, .func (PySem.W.fnOf "scaled" "scaled" (defArgs s_scaled) (defBody s_scaled) (defScope s_scaled) .none kV57 dc57 pm57 an57 cd57 ct57), sl57⟩) (c57 : PySem.W.codeIn K cd57 "scaled" = true) (k57 : PySem.W.keepIn K (.ref f57) = true)
    {f58 : Addr} {od58 an58 : Option Addr} {sl58 : Array (Option Value)} {oc58 kV58 dc58 pm58 cd58 ct58 : Value}
    (a58 : PySem.W.nsIn K mainGlobals "_law_well" = some (some (.ref f58)))
    (l58 : K.lookup f58 = some ⟨oc58, od58, .func (PySem.W.fnOf "_law_well" "_law_well" (defArgs s_l_well) (defBody s_l_well) (defScope s_l_well) .none kV58 dc58 pm58 an58 cd58 ct58), sl58⟩) (c58 : PySem.W.codeIn K cd58 "_law_well" = true) (k58 : PySem.W.keepIn K (.ref f58) = true)
    {f59 : Addr} {od59 an59 : Option Addr} {sl59 : Array (Option Value)} {oc59 kV59 dc59 pm59 cd59 ct59 : Value}
    (a59 : PySem.W.nsIn K mainGlobals "_law_draw" = some (some (.ref f59)))
    (l59 : K.lookup f59 = some ⟨oc59, od59, .func (PySem.W.fnOf "_law_draw" "_law_draw" (defArgs s_l_draw) (defBody s_l_draw) (defScope s_l_draw) .none kV59 dc59 pm59 an59 cd59 ct59), sl59⟩) (c59 : PySem.W.codeIn K cd59 "_law_draw" = true) (k59 : PySem.W.keepIn K (.ref f59) = true)
    {f60 : Addr} {od60 an60 : Option Addr} {sl60 : Array (Option Value)} {oc60 kV60 dc60 pm60 cd60 ct60 : Value}
    (a60 : PySem.W.nsIn K mainGlobals "_law_machine" = some (some (.ref f60)))
    (l60 : K.lookup f60 = some ⟨oc60, od60, .func (PySem.W.fnOf "_law_machine" "_law_machine" (defArgs s_l_machine) (defBody s_l_machine) (defScope s_l_machine) .none kV60 dc60 pm60 an60 cd60 ct60), sl60⟩) (c60 : PySem.W.codeIn K cd60 "_law_machine" = true) (k60 : PySem.W.keepIn K (.ref f60) = true)
    {f61 : Addr} {od61 an61 : Option Addr} {sl61 : Array (Option Value)} {oc61 kV61 dc61 pm61 cd61 ct61 : Value}
    (a61 : PySem.W.nsIn K mainGlobals "_law_language" = some (some (.ref f61)))
    (l61 : K.lookup f61 = some ⟨oc61, od61, .func (PySem.W.fnOf "_law_language" "_law_language" (defArgs s_l_language) (defBody s_l_language) (defScope s_l_language) .none kV61 dc61 pm61 an61 cd61 ct61), sl61⟩) (c61 : PySem.W.codeIn K cd61 "_law_language" = true) (k61 : PySem.W.keepIn K (.ref f61) = true)
    {f62 : Addr} {od62 an62 : Option Addr} {sl62 : Array (Option Value)} {oc62 kV62 dc62 pm62 cd62 ct62 : Value}
    (a62 : PySem.W.nsIn K mainGlobals "_law_below" = some (some (.ref f62)))
    (l62 : K.lookup f62 = some ⟨oc62, od62, .func (PySem.W.fnOf "_law_below" "_law_below" (defArgs s_l_below) (defBody s_l_below) (defScope s_l_below) .none kV62 dc62 pm62 an62 cd62 ct62), sl62⟩) (c62 : PySem.W.codeIn K cd62 "_law_below" = true) (k62 : PySem.W.keepIn K (.ref f62) = true)
    {f63 : Addr} {od63 an63 : Option Addr} {sl63 : Array (Option Value)} {oc63 kV63 dc63 pm63 cd63 ct63 : Value}
    (a63 : PySem.W.nsIn K mainGlobals "_law_alike_growth" = some (some (.ref f63)))
    (l63 : K.lookup f63 = some ⟨oc63, od63, .func (PySem.W.fnOf "_law_alike_growth" "_law_alike_growth" (defArgs s_l_alike_growth) (defBody s_l_alike_growth) (defScope s_l_alike_growth) .none kV63 dc63 pm63 an63 cd63 ct63), sl63⟩) (c63 : PySem.W.codeIn K cd63 "_law_alike_growth" = true) (k63 : PySem.W.keepIn K (.ref f63) = true)
    {f64 : Addr} {od64 an64 : Option Addr} {sl64 : Array (Option Value)} {oc64 kV64 dc64 pm64 cd64 ct64 : Value}
    (a64 : PySem.W.nsIn K mainGlobals "_law_plain_pairs" = some (some (.ref f64)))
    (l64 : K.lookup f64 = some ⟨oc64, od64, .func (PySem.W.fnOf "_law_plain_pairs" "_law_plain_pairs" (defArgs s_l_plain_pairs) (defBody s_l_plain_pairs) (defScope s_l_plain_pairs) .none kV64 dc64 pm64 an64 cd64 ct64), sl64⟩) (c64 : PySem.W.codeIn K cd64 "_law_plain_pairs" = true) (k64 : PySem.W.keepIn K (.ref f64) = true)
    {f65 : Addr} {od65 an65 : Option Addr} {sl65 : Array (Option Value)} {oc65 kV65 dc65 pm65 cd65 ct65 : Value}
    (a65 : PySem.W.nsIn K mainGlobals "law" = some (some (.ref f65)))
    (l65 : K.lookup f65 = some ⟨oc65, od65, .func (PySem.W.fnOf "law" "law" (defArgs s_law) (defBody s_law) (defScope s_law) .none kV65 dc65 pm65 an65 cd65 ct65), sl65⟩) (c65 : PySem.W.codeIn K cd65 "law" = true) (k65 : PySem.W.keepIn K (.ref f65) = true)
    {C0 : Addr} (xa0 : PySem.W.nsIn K mainGlobals "CostError" = some (some (.ref C0))) (xe0 : PySem.W.excIn K C0 [.type "ValueError", .type "Exception", .type "BaseException", .type "object"] "ValueError.__new__" = true) (xk0 : PySem.W.keepIn K (.ref C0) = true) (xs0 : PySem.W.subIn K (.ref C0) (.type "BaseException") = some true) (xt0 : PySem.W.typeIn K (.ref C0) = some (.type "type")) (xc0 : PySem.W.isClsIn K C0 = true)
    {C1 : Addr} (xa1 : PySem.W.nsIn K mainGlobals "BadMachine" = some (some (.ref C1))) (xe1 : PySem.W.excIn K C1 [.type "ValueError", .type "Exception", .type "BaseException", .type "object"] "ValueError.__new__" = true) (xk1 : PySem.W.keepIn K (.ref C1) = true) (xs1 : PySem.W.subIn K (.ref C1) (.type "BaseException") = some true) (xt1 : PySem.W.typeIn K (.ref C1) = some (.type "type")) (xc1 : PySem.W.isClsIn K C1 = true)
    {C2 : Addr} (xa2 : PySem.W.nsIn K mainGlobals "BadOther" = some (some (.ref C2))) (xe2 : PySem.W.excIn K C2 [.type "ValueError", .type "Exception", .type "BaseException", .type "object"] "ValueError.__new__" = true) (xk2 : PySem.W.keepIn K (.ref C2) = true) (xs2 : PySem.W.subIn K (.ref C2) (.type "BaseException") = some true) (xt2 : PySem.W.typeIn K (.ref C2) = some (.type "type")) (xc2 : PySem.W.isClsIn K C2 = true)
    {C3 : Addr} (xa3 : PySem.W.nsIn K mainGlobals "Unlike" = some (some (.ref C3))) (xe3 : PySem.W.excIn K C3 [.type "ValueError", .type "Exception", .type "BaseException", .type "object"] "ValueError.__new__" = true) (xk3 : PySem.W.keepIn K (.ref C3) = true) (xs3 : PySem.W.subIn K (.ref C3) (.type "BaseException") = some true) (xt3 : PySem.W.typeIn K (.ref C3) = some (.type "type")) (xc3 : PySem.W.isClsIn K C3 = true)
    {C4 : Addr} (xa4 : PySem.W.nsIn K mainGlobals "BadLanguage" = some (some (.ref C4))) (xe4 : PySem.W.excIn K C4 [.type "ValueError", .type "Exception", .type "BaseException", .type "object"] "ValueError.__new__" = true) (xk4 : PySem.W.keepIn K (.ref C4) = true) (xs4 : PySem.W.subIn K (.ref C4) (.type "BaseException") = some true) (xt4 : PySem.W.typeIn K (.ref C4) = some (.type "type")) (xc4 : PySem.W.isClsIn K C4 = true)
    {C5 : Addr} (xa5 : PySem.W.nsIn K mainGlobals "NotPlain" = some (some (.ref C5))) (xe5 : PySem.W.excIn K C5 [.type "ValueError", .type "Exception", .type "BaseException", .type "object"] "ValueError.__new__" = true) (xk5 : PySem.W.keepIn K (.ref C5) = true) (xs5 : PySem.W.subIn K (.ref C5) (.type "BaseException") = some true) (xt5 : PySem.W.typeIn K (.ref C5) = some (.type "type")) (xc5 : PySem.W.isClsIn K C5 = true)
    {C6 : Addr} (xa6 : PySem.W.nsIn K mainGlobals "BadFactor" = some (some (.ref C6))) (xe6 : PySem.W.excIn K C6 [.type "ValueError", .type "Exception", .type "BaseException", .type "object"] "ValueError.__new__" = true) (xk6 : PySem.W.keepIn K (.ref C6) = true) (xs6 : PySem.W.subIn K (.ref C6) (.type "BaseException") = some true) (xt6 : PySem.W.typeIn K (.ref C6) = some (.type "type")) (xc6 : PySem.W.isClsIn K C6 = true)
    {C7 : Addr} (xa7 : PySem.W.nsIn K mainGlobals "TooGreat" = some (some (.ref C7))) (xe7 : PySem.W.excIn K C7 [.type "ValueError", .type "Exception", .type "BaseException", .type "object"] "ValueError.__new__" = true) (xk7 : PySem.W.keepIn K (.ref C7) = true) (xs7 : PySem.W.subIn K (.ref C7) (.type "BaseException") = some true) (xt7 : PySem.W.typeIn K (.ref C7) = some (.type "type")) (xc7 : PySem.W.isClsIn K C7 = true)
    (e7_7 : PySem.W.subIn K (.ref C7) (.ref C7) = some true)
    (z0 : PySem.W.nsIn K mainGlobals "isinstance" = some none)
    (z1 : PySem.W.nsIn K mainGlobals "len" = some none)
    (z2 : PySem.W.nsIn K mainGlobals "all" = some none)
    (z3 : PySem.W.nsIn K mainGlobals "any" = some none)
    (z4 : PySem.W.nsIn K mainGlobals "min" = some none)
    (z5 : PySem.W.nsIn K mainGlobals "max" = some none)
    (z6 : PySem.W.nsIn K mainGlobals "sorted" = some none)
    (z7 : PySem.W.nsIn K mainGlobals "zip" = some none)
    (z8 : PySem.W.nsIn K mainGlobals "enumerate" = some none)
    (z9 : PySem.W.nsIn K mainGlobals "range" = some none)
    (z10 : PySem.W.nsIn K mainGlobals "int" = some none)
    (z11 : PySem.W.nsIn K mainGlobals "str" = some none)
    (z12 : PySem.W.nsIn K mainGlobals "bool" = some none)
    (z13 : PySem.W.nsIn K mainGlobals "tuple" = some none)
    (z14 : PySem.W.nsIn K mainGlobals "list" = some none)
    (z15 : PySem.W.nsIn K mainGlobals "set" = some none)
    (z16 : PySem.W.nsIn K mainGlobals "abs" = some none)
    {t0 : Tok} (v0 : PySem.W.nsIn K mainGlobals "SMALL_LETTERS" = some (some (.str (PySem.Str.ofString "abcdefghijklmnopqrstuvwxyz") t0)))
    {t1 : Tok} (v1 : PySem.W.nsIn K mainGlobals "DIGITS" = some (some (.str (PySem.Str.ofString "0123456789") t1)))
    {t2 : Tok} (v2 : PySem.W.nsIn K mainGlobals "LONGEST_NAME" = some (some (.int 10 t2)))
    {t3 : Tok} (v3 : PySem.W.nsIn K mainGlobals "MOST_LETTERS" = some (some (.int 6 t3)))
    {t4 : Tok} (v4 : PySem.W.nsIn K mainGlobals "MOST_STATES" = some (some (.int 12 t4)))
    {t5 : Tok} (v5 : PySem.W.nsIn K mainGlobals "MOST_MOVES" = some (some (.int 5000 t5)))
    {t6 : Tok} (v6 : PySem.W.nsIn K mainGlobals "MOST_COST" = some (some (.int 50 t6)))
    {t7 : Tok} (v7 : PySem.W.nsIn K mainGlobals "RESET_COST" = some (some (.int (-1) t7)))
    {t8 : Tok} (v8 : PySem.W.nsIn K mainGlobals "RESET" = some (some (.int (-1) t8)))
    {t9 : Tok} (v9 : PySem.W.nsIn K mainGlobals "FREE" = some (some (.int 0 t9)))
    {t10 : Tok} (v10 : PySem.W.nsIn K mainGlobals "PAID" = some (some (.int 1 t10)))
    {t11 : Tok} (v11 : PySem.W.nsIn K mainGlobals "GROWING" = some (some (.int 2 t11)))
    {t12 : Tok} (v12 : PySem.W.nsIn K mainGlobals "NONE" = some (some (.int 3 t12)))
    {t13 : Tok} (v13 : PySem.W.nsIn K mainGlobals "MOST_PAIRS" = some (some (.int 500 t13)))
    {t14 : Tok} (v14 : PySem.W.nsIn K mainGlobals "MOST_SMALL" = some (some (.int 100 t14)))
    : Txt K mg where
  O_PairClosure := ⟨D0, PySem.W.mg_of X G da0, ⟨dg0, dh0, dp0, ds0⟩, dm0, dk0⟩
  f_PairClosure_most := df0_0
  f_PairClosure_found := df0_1
  f_PairClosure_entries := df0_2
  f_PairClosure_numbers := df0_3
  f_PairClosure_makers := df0_4
  f_PairClosure_met := df0_5
  A_is_int := let F := fun_mk (st := s_is_int) l0 c0 k0; ⟨f0, _, F, PySem.W.mg_of X G a0, F.binds fun _ _ _ _ _ _ us hl => match us, hl with | [_], _ => rfl⟩
  A_within := let F := fun_mk (st := s_within) l1 c1 k1; ⟨f1, _, F, PySem.W.mg_of X G a1, F.binds fun _ _ _ _ _ _ us hl => match us, hl with | [_, _, _], _ => rfl⟩
  A_is_row := let F := fun_mk (st := s_is_row) l2 c2 k2; ⟨f2, _, F, PySem.W.mg_of X G a2, F.binds fun _ _ _ _ _ _ us hl => match us, hl with | [_, _, _], _ => rfl⟩
  A_is_low_name := let F := fun_mk (st := s_is_low_name) l3 c3 k3; ⟨f3, _, F, PySem.W.mg_of X G a3, F.binds fun _ _ _ _ _ _ us hl => match us, hl with | [_], _ => rfl⟩
  A_is_ascending := let F := fun_mk (st := s_is_ascending) l4 c4 k4; ⟨f4, _, F, PySem.W.mg_of X G a4, F.binds fun _ _ _ _ _ _ us hl => match us, hl with | [_], _ => rfl⟩
  A_are_indexes := let F := fun_mk (st := s_are_indexes) l5 c5 k5; ⟨f5, _, F, PySem.W.mg_of X G a5, F.binds fun _ _ _ _ _ _ us hl => match us, hl with | [_, _], _ => rfl⟩
  A_are_letters := let F := fun_mk (st := s_are_letters) l6 c6 k6; ⟨f6, _, F, PySem.W.mg_of X G a6, F.binds fun _ _ _ _ _ _ us hl => match us, hl with | [_], _ => rfl⟩
  A_is_move := let F := fun_mk (st := s_is_move) l7 c7 k7; ⟨f7, _, F, PySem.W.mg_of X G a7, F.binds fun _ _ _ _ _ _ us hl => match us, hl with | [_, _, _], _ => rfl⟩
  A_is_any_machine := let F := fun_mk (st := s_is_any_machine) l8 c8 k8; ⟨f8, _, F, PySem.W.mg_of X G a8, F.binds fun _ _ _ _ _ _ us hl => match us, hl with | [_], _ => rfl⟩
  A_is_machine := let F := fun_mk (st := s_is_machine) l9 c9 k9; ⟨f9, _, F, PySem.W.mg_of X G a9, F.binds fun _ _ _ _ _ _ us hl => match us, hl with | [_], _ => rfl⟩
  A_need_machine := let F := fun_mk (st := s_need_machine) l10 c10 k10; ⟨f10, _, F, PySem.W.mg_of X G a10, F.binds fun _ _ _ _ _ _ us hl => match us, hl with | [_], _ => rfl⟩
  A_need_other_machine := let F := fun_mk (st := s_need_other_machine) l11 c11 k11; ⟨f11, _, F, PySem.W.mg_of X G a11, F.binds fun _ _ _ _ _ _ us hl => match us, hl with | [_], _ => rfl⟩
  A_need_alike := let F := fun_mk (st := s_need_alike) l12 c12 k12; ⟨f12, _, F, PySem.W.mg_of X G a12, F.binds fun _ _ _ _ _ _ us hl => match us, hl with | [_, _], _ => rfl⟩
  A_need_both_machines := let F := fun_mk (st := s_need_both_machines) l13 c13 k13; ⟨f13, _, F, PySem.W.mg_of X G a13, F.binds fun _ _ _ _ _ _ us hl => match us, hl with | [_, _], _ => rfl⟩
  A_has_reset := let F := fun_mk (st := s_has_reset) l14 c14 k14; ⟨f14, _, F, PySem.W.mg_of X G a14, F.binds fun _ _ _ _ _ _ us hl => match us, hl with | [_], _ => rfl⟩
  A_need_plain := let F := fun_mk (st := s_need_plain) l15 c15 k15; ⟨f15, _, F, PySem.W.mg_of X G a15, F.binds fun _ _ _ _ _ _ us hl => match us, hl with | [_], _ => rfl⟩
  A_made_machine := let F := fun_mk (st := s_made_machine) l16 c16 k16; ⟨f16, _, F, PySem.W.mg_of X G a16, F.binds fun _ _ _ _ _ _ us hl => match us, hl with | [_, _, _, _, _], _ => rfl⟩
  A_on := let F := fun_mk (st := s_on) l17 c17 k17; ⟨f17, _, F, PySem.W.mg_of X G a17, F.binds fun _ _ _ _ _ _ us hl => match us, hl with | [_, _], _ => rfl⟩
  A_times := let F := fun_mk (st := s_times) l18 c18 k18; ⟨f18, _, F, PySem.W.mg_of X G a18, F.binds fun _ _ _ _ _ _ us hl => match us, hl with | [_, _], _ => rfl⟩
  A_best_way := let F := fun_mk (st := s_best_way) l19 c19 k19; ⟨f19, _, F, PySem.W.mg_of X G a19, F.binds fun _ _ _ _ _ _ us hl => match us, hl with | [_, _], _ => rfl⟩
  A_is_own_square := let F := fun_mk (st := s_is_own_square) l20 c20 k20; ⟨f20, _, F, PySem.W.mg_of X G a20, F.binds fun _ _ _ _ _ _ us hl => match us, hl with | [_], _ => rfl⟩
  A_held := let F := fun_mk (st := s_held) l21 c21 k21; ⟨f21, _, F, PySem.W.mg_of X G a21, F.binds fun _ _ _ _ _ _ us hl => match us, hl with | [_], _ => rfl⟩
  A_pumped := let F := fun_mk (st := s_pumped) l22 c22 k22; ⟨f22, _, F, PySem.W.mg_of X G a22, F.binds fun _ _ _ _ _ _ us hl => match us, hl with | [_], _ => rfl⟩
  A_class_of_cost := let F := fun_mk (st := s_class_of_cost) l23 c23 k23; ⟨f23, _, F, PySem.W.mg_of X G a23, F.binds fun _ _ _ _ _ _ us hl => match us, hl with | [_], _ => rfl⟩
  A_unit := let F := fun_mk (st := s_unit) l24 c24 k24; ⟨f24, _, F, PySem.W.mg_of X G a24, F.binds fun _ _ _ _ _ _ us hl => match us, hl with | [_], _ => rfl⟩
  A_matrices_of_letters := let F := fun_mk (st := s_matrices_of_letters) l25 c25 k25; ⟨f25, _, F, PySem.W.mg_of X G a25, F.binds fun _ _ _ _ _ _ us hl => match us, hl with | [_], _ => rfl⟩
  A_need_two_machines := let F := fun_mk (st := s_need_two_machines) l26 c26 k26; ⟨f26, _, F, PySem.W.mg_of X G a26, F.binds fun _ _ _ _ _ _ us hl => match us, hl with | [_, _], _ => rfl⟩
  A_pair_times := let F := fun_mk (st := s_pair_times) l27 c27 k27; ⟨f27, _, F, PySem.W.mg_of X G a27, F.binds fun _ _ _ _ _ _ us hl => match us, hl with | [_, _], _ => rfl⟩
  A_is_own_pair := let F := fun_mk (st := s_is_own_pair) l28 c28 k28; ⟨f28, _, F, PySem.W.mg_of X G a28, F.binds fun _ _ _ _ _ _ us hl => match us, hl with | [_], _ => rfl⟩
  A_pair_pumped := let F := fun_mk (st := s_pair_pumped) l29 c29 k29; ⟨f29, _, F, PySem.W.mg_of X G a29, F.binds fun _ _ _ _ _ _ us hl => match us, hl with | [_], _ => rfl⟩
  A_pairs_of_letters := let F := fun_mk (st := s_pairs_of_letters) l30 c30 k30; ⟨f30, _, F, PySem.W.mg_of X G a30, F.binds fun _ _ _ _ _ _ us hl => match us, hl with | [_, _], _ => rfl⟩
  A_unit_pair := let F := fun_mk (st := s_unit_pair) l31 c31 k31; ⟨f31, _, F, PySem.W.mg_of X G a31, F.binds fun _ _ _ _ _ _ us hl => match us, hl with | [_, _], _ => rfl⟩
  A_is_against := let F := fun_mk (st := s_is_against) l32 c32 k32; ⟨f32, _, F, PySem.W.mg_of X G a32, F.binds fun _ _ _ _ _ _ us hl => match us, hl with | [_, _, _], _ => rfl⟩
  A_PairClosure_init := let F := fun_mk (st := s_PairClosure_init) l33 c33 k33; ⟨f33, _, F, ⟨a33, i33, k33⟩, F.binds fun _ _ _ _ _ _ us hl => match us, hl with | [_, _, _, _], _ => rfl⟩
  A_PairClosure_add := let F := fun_mk (st := s_PairClosure_add) l34 c34 k34; ⟨f34, _, F, ⟨a34, i34, k34⟩, F.binds fun _ _ _ _ _ _ us hl => match us, hl with | [_, _, _], _ => rfl⟩
  A_PairClosure_make := let F := fun_mk (st := s_PairClosure_make) l35 c35 k35; ⟨f35, _, F, ⟨a35, i35, k35⟩, F.binds fun _ _ _ _ _ _ us hl => match us, hl with | [_, _, _], _ => rfl⟩
  A_PairClosure_multiply := let F := fun_mk (st := s_PairClosure_multiply) l36 c36 k36; ⟨f36, _, F, ⟨a36, i36, k36⟩, F.binds fun _ _ _ _ _ _ us hl => match us, hl with | [_], _ => rfl⟩
  A_closure_of_two := let F := fun_mk (st := s_closure_of_two) l37 c37 k37; ⟨f37, _, F, PySem.W.mg_of X G a37, F.binds fun _ _ _ _ _ _ us hl => match us, hl with | [_, _], _ => rfl⟩
  A_first_against := let F := fun_mk (st := s_first_against) l38 c38 k38; ⟨f38, _, F, PySem.W.mg_of X G a38, F.binds fun _ _ _ _ _ _ us hl => match us, hl with | [_, _, _], _ => rfl⟩
  A_is_below_inside := let F := fun_mk (st := s_is_below_inside) l39 c39 k39; ⟨f39, _, F, PySem.W.mg_of X G a39, F.binds fun _ _ _ _ _ _ us hl => match us, hl with | [_, _], _ => rfl⟩
  A_is_below := let F := fun_mk (st := s_is_below) l40 c40 k40; ⟨f40, _, F, PySem.W.mg_of X G a40, F.binds fun _ _ _ _ _ _ us hl => match us, hl with | [_, _], _ => rfl⟩
  A_grow_alike := let F := fun_mk (st := s_grow_alike) l41 c41 k41; ⟨f41, _, F, PySem.W.mg_of X G a41, F.binds fun _ _ _ _ _ _ us hl => match us, hl with | [_, _], _ => rfl⟩
  A_is_language := let F := fun_mk (st := s_is_language) l42 c42 k42; ⟨f42, _, F, PySem.W.mg_of X G a42, F.binds fun _ _ _ _ _ _ us hl => match us, hl with | [_], _ => rfl⟩
  A_need_language := let F := fun_mk (st := s_need_language) l43 c43 k43; ⟨f43, _, F, PySem.W.mg_of X G a43, F.binds fun _ _ _ _ _ _ us hl => match us, hl with | [_], _ => rfl⟩
  A_spread_over := let F := fun_mk (st := s_spread_over) l44 c44 k44; ⟨f44, _, F, PySem.W.mg_of X G a44, F.binds fun _ _ _ _ _ _ us hl => match us, hl with | [_, _], _ => rfl⟩
  A_trimmed_of := let F := fun_mk (st := s_trimmed_of) l45 c45 k45; ⟨f45, _, F, PySem.W.mg_of X G a45, F.binds fun _ _ _ _ _ _ us hl => match us, hl with | [_], _ => rfl⟩
  A_trimmed := let F := fun_mk (st := s_trimmed) l46 c46 k46; ⟨f46, _, F, PySem.W.mg_of X G a46, F.binds fun _ _ _ _ _ _ us hl => match us, hl with | [_], _ => rfl⟩
  A_moved := let F := fun_mk (st := s_moved) l47 c47 k47; ⟨f47, _, F, PySem.W.mg_of X G a47, F.binds fun _ _ _ _ _ _ us hl => match us, hl with | [_, _], _ => rfl⟩
  A_moved_moves := let F := fun_mk (st := s_moved_moves) l48 c48 k48; ⟨f48, _, F, PySem.W.mg_of X G a48, F.binds fun _ _ _ _ _ _ us hl => match us, hl with | [_, _], _ => rfl⟩
  A_cheaper := let F := fun_mk (st := s_cheaper) l49 c49 k49; ⟨f49, _, F, PySem.W.mg_of X G a49, F.binds fun _ _ _ _ _ _ us hl => match us, hl with | [_, _], _ => rfl⟩
  A_restricted_to := let F := fun_mk (st := s_restricted_to) l50 c50 k50; ⟨f50, _, F, PySem.W.mg_of X G a50, F.binds fun _ _ _ _ _ _ us hl => match us, hl with | [_, _], _ => rfl⟩
  A_restricted := let F := fun_mk (st := s_restricted) l51 c51 k51; ⟨f51, _, F, PySem.W.mg_of X G a51, F.binds fun _ _ _ _ _ _ us hl => match us, hl with | [_, _], _ => rfl⟩
  A_summed := let F := fun_mk (st := s_summed) l52 c52 k52; ⟨f52, _, F, PySem.W.mg_of X G a52, F.binds fun _ _ _ _ _ _ us hl => match us, hl with | [_, _], _ => rfl⟩
  A_repeated_of := let F := fun_mk (st := s_repeated_of) l53 c53 k53; ⟨f53, _, F, PySem.W.mg_of X G a53, F.binds fun _ _ _ _ _ _ us hl => match us, hl with | [_], _ => rfl⟩
  A_repeated := let F := fun_mk (st := s_repeated) l54 c54 k54; ⟨f54, _, F, PySem.W.mg_of X G a54, F.binds fun _ _ _ _ _ _ us hl => match us, hl with | [_], _ => rfl⟩
  A_need_plain_machine := let F := fun_mk (st := s_need_plain_machine) l55 c55 k55; ⟨f55, _, F, PySem.W.mg_of X G a55, F.binds fun _ _ _ _ _ _ us hl => match us, hl with | [_], _ => rfl⟩
  A_mirrored_machine := let F := fun_mk (st := s_mirrored_machine) l56 c56 k56; ⟨f56, _, F, PySem.W.mg_of X G a56, F.binds fun _ _ _ _ _ _ us hl => match us, hl with | [_], _ => rfl⟩
  A_scaled := let F := fun_mk (st := s_scaled) l57 c57 k57; ⟨f57, _, F, PySem.W.mg_of X G a57, F.binds fun _ _ _ _ _ _ us hl => match us, hl with | [_, _], _ => rfl⟩
  A_l_well := let F := fun_mk (st := s_l_well) l58 c58 k58; ⟨f58, _, F, PySem.W.mg_of X G a58, F.binds fun _ _ _ _ _ _ us hl => match us, hl with | [_], _ => rfl⟩
  A_l_draw := let F := fun_mk (st := s_l_draw) l59 c59 k59; ⟨f59, _, F, PySem.W.mg_of X G a59, F.binds fun _ _ _ _ _ _ us hl => match us, hl with | [_, _], _ => rfl⟩
  A_l_machine := let F := fun_mk (st := s_l_machine) l60 c60 k60; ⟨f60, _, F, PySem.W.mg_of X G a60, F.binds fun _ _ _ _ _ _ us hl => match us, hl with | [_, _, _, _], _ => rfl⟩
  A_l_language := let F := fun_mk (st := s_l_language) l61 c61 k61; ⟨f61, _, F, PySem.W.mg_of X G a61, F.binds fun _ _ _ _ _ _ us hl => match us, hl with | [_, _, _], _ => rfl⟩
  A_l_below := let F := fun_mk (st := s_l_below) l62 c62 k62; ⟨f62, _, F, PySem.W.mg_of X G a62, F.binds fun _ _ _ _ _ _ us hl => match us, hl with | [_, _], _ => rfl⟩
  A_l_alike_growth := let F := fun_mk (st := s_l_alike_growth) l63 c63 k63; ⟨f63, _, F, PySem.W.mg_of X G a63, F.binds fun _ _ _ _ _ _ us hl => match us, hl with | [_, _], _ => rfl⟩
  A_l_plain_pairs := let F := fun_mk (st := s_l_plain_pairs) l64 c64 k64; ⟨f64, _, F, PySem.W.mg_of X G a64, F.binds fun _ _ _ _ _ _ us hl => match us, hl with | [_, _], _ => rfl⟩
  A_law := let F := fun_mk (st := s_law) l65 c65 k65; ⟨f65, _, F, PySem.W.mg_of X G a65, F.binds fun _ _ _ _ _ _ us hl => match us, hl with | [_], _ => rfl⟩
  X_CostError := ⟨C0, PySem.W.mg_of X G xa0, xe0, xk0, xs0, xt0, xc0⟩
  X_BadMachine := ⟨C1, PySem.W.mg_of X G xa1, xe1, xk1, xs1, xt1, xc1⟩
  X_BadOther := ⟨C2, PySem.W.mg_of X G xa2, xe2, xk2, xs2, xt2, xc2⟩
  X_Unlike := ⟨C3, PySem.W.mg_of X G xa3, xe3, xk3, xs3, xt3, xc3⟩
  X_BadLanguage := ⟨C4, PySem.W.mg_of X G xa4, xe4, xk4, xs4, xt4, xc4⟩
  X_NotPlain := ⟨C5, PySem.W.mg_of X G xa5, xe5, xk5, xs5, xt5, xc5⟩
  X_BadFactor := ⟨C6, PySem.W.mg_of X G xa6, xe6, xk6, xs6, xt6, xc6⟩
  X_TooGreat := ⟨C7, PySem.W.mg_of X G xa7, xe7, xk7, xs7, xt7, xc7⟩
  e_TooGreat_TooGreat := e7_7
  n_isinstance := PySem.W.mg_none_of X G z0
  n_len := PySem.W.mg_none_of X G z1
  n_all := PySem.W.mg_none_of X G z2
  n_any := PySem.W.mg_none_of X G z3
  n_min := PySem.W.mg_none_of X G z4
  n_max := PySem.W.mg_none_of X G z5
  n_sorted := PySem.W.mg_none_of X G z6
  n_zip := PySem.W.mg_none_of X G z7
  n_enumerate := PySem.W.mg_none_of X G z8
  n_range := PySem.W.mg_none_of X G z9
  n_int := PySem.W.mg_none_of X G z10
  n_str := PySem.W.mg_none_of X G z11
  n_bool := PySem.W.mg_none_of X G z12
  n_tuple := PySem.W.mg_none_of X G z13
  n_list := PySem.W.mg_none_of X G z14
  n_set := PySem.W.mg_none_of X G z15
  n_abs := PySem.W.mg_none_of X G z16
  tk_SMALL_LETTERS := t0
  v_SMALL_LETTERS := PySem.W.mg_of X G v0
  tk_DIGITS := t1
  v_DIGITS := PySem.W.mg_of X G v1
  tk_LONGEST_NAME := t2
  v_LONGEST_NAME := PySem.W.mg_of X G v2
  tk_MOST_LETTERS := t3
  v_MOST_LETTERS := PySem.W.mg_of X G v3
  tk_MOST_STATES := t4
  v_MOST_STATES := PySem.W.mg_of X G v4
  tk_MOST_MOVES := t5
  v_MOST_MOVES := PySem.W.mg_of X G v5
  tk_MOST_COST := t6
  v_MOST_COST := PySem.W.mg_of X G v6
  tk_RESET_COST := t7
  v_RESET_COST := PySem.W.mg_of X G v7
  tk_RESET := t8
  v_RESET := PySem.W.mg_of X G v8
  tk_FREE := t9
  v_FREE := PySem.W.mg_of X G v9
  tk_PAID := t10
  v_PAID := PySem.W.mg_of X G v10
  tk_GROWING := t11
  v_GROWING := PySem.W.mg_of X G v11
  tk_NONE := t12
  v_NONE := PySem.W.mg_of X G v12
  tk_MOST_PAIRS := t13
  v_MOST_PAIRS := PySem.W.mg_of X G v13
  tk_MOST_SMALL := t14
  v_MOST_SMALL := PySem.W.mg_of X G v14
end Kw

set_option maxRecDepth 100000
set_option maxHeartbeats 2000000
/-! More rules: ranges as values, zip, tuples of five, two clauses, slices back. -/
namespace KD
open PySem PySem.Spec PyProof.Rows L2
section
variable {X : Cx} {K : PySem.W.Frag}
theorem kSlL (hK : X.K = K := by rfl) : SlR X (rSlL K) := by subst hK; exact sl_list
theorem kMin2 (hc : X.calm = true := by rfl) : CallR X (.builtin "min") (fun xs H Q => ∃ i j, xs = [.int i, .int j] ∧ Q (.int (if j < i then j else i)) H) := call_min2 hc
theorem kMax2 (hc : X.calm = true := by rfl) : CallR X (.builtin "max") (fun xs H Q => ∃ i j, xs = [.int i, .int j] ∧ Q (.int (if j > i then j else i)) H) := call_max2 hc
theorem kAbs : CallR X (.builtin "abs") (fun xs H Q => ∃ i, xs = [.int i] ∧ Q (.int (if i < 0 then -i else i)) H) := call_abs
def rInt1' : List V → Hp → VK → Prop := fun xs H Q => (∃ i, xs = [.int i] ∧ Q (.int i) H) ∨ ∃ k, xs = [.bl k] ∧ Q (.int (if k then 1 else 0)) H
theorem kInt1 : CallR X (.type "int") rInt1' := call_int1
def rListOf (K : PySem.W.Frag) : List V → Hp → VK → Prop := fun xs H Q => ∃ p ys, xs = [.ref p] ∧ (SqL K H p ys ∨ SqT K H p ys) ∧ ∀ l, H l = none → Q (.ref l) (upd H l (.lst ys))
theorem kListOf (hK : X.K = K := by rfl) : CallR X (.type "list") (rListOf K) := by subst hK; exact call_list_of
theorem kSum (hc : X.calm = true := by rfl) (hK : X.K = K := by rfl) : CallR X (.builtin "sum") (rSum K) := by subst hK; exact cr_sum hc
/-- xs[i], for xs[i] op= e -/
theorem kGetL (hK : X.K = K := by rfl) : PGet X (rIxL K) := by
  subst hK
  intro pins s σ H o i ov iv Q I r1 r2 h
  obtain ⟨p, xs, k, z, rfl, rfl, hq, he, q⟩ := h
  cases r1
  obtain ⟨t, rfl⟩ := r2
  obtain ⟨its, r, pl, hz⟩ := I.list hq
  obtain ⟨j, h1, h2, h3, h4, h5⟩ := atI_get he
  obtain ⟨w, ew, rw'⟩ := r.get h2
  have hl := r.length
  have hn := line63
  have fin : EP X pins σ Q w s := ⟨z, H, I, rw', q⟩
  by_cases h0 : 0 ≤ k
  · have hj : k.toNat = j := by
      rw [seqIndex_of h0 h5] at h1
      exact Option.some.inj h1
    exact wpAny_getItem_list pl.isList h0 (by omega) (by rw [hj]; simpa using ew) fin
  · have hj : (k + (its.toArray.size : Int)).toNat = j := by
      rw [seqIndex_neg (by omega) h4] at h1
      rw [List.size_toArray, ← hl]
      exact Option.some.inj h1
    exact wpAny_getItem_list_neg pl.isList (by omega) (by rw [List.size_toArray] <;> omega) (by omega) (by rw [hj]; simpa using ew) fin
/-! ### range(n) as a value -/
def rRange1 : List V → Hp → VK → Prop := fun vs H Q => ∃ j, vs = [V.int j] ∧ ∀ p, H p = none → Q (.ref p) (upd H p (.rng 0 j))
theorem kRange1 : CallR X (.type "range") rRange1 := by
  intro pins s σ H vs us Q I r h
  obtain ⟨j, rfl, q⟩ := h
  obtain ⟨u, rfl, ru⟩ := vals1 r
  obtain ⟨t, rfl⟩ := ru
  refine call_range_1 ⟨.ref s.heap.objs.size, upd H s.heap.objs.size (.rng 0 j), I.laid (t' := s.toks + 1 + 1) (fun b o e => Heap.get?_push_of_some _ e) (Nat.le_refl _) ?_, rfl, q _ (I.hok.fresh (Nat.le_refl _))⟩
  exact ⟨s.toks, t, s.toks + 1, Heap.get?_push_size _ rfl⟩
/-- for i in a range object -/
def iRngV (te : TE) : TI := fun σ H R => te σ H fun x H1 => ∃ a n, x = .ref a ∧ H1 a = some (.rng 0 ((n : Nat) : Int)) ∧ n ≤ 100000 ∧ R (Itr 0 n) H1
theorem kiRng {tg e : Expr} {te : TE} (he : PE X e te) : PI X tg e (iRngV te) := by
  refine ⟨fun pins s σ H R I h => ?_⟩
  refine thn (he.run pins s σ H _ I h) fun v s1 ⟨x, H1, I1, r1, a, n, e1, ha, hn, q⟩ => ?_
  subst e1
  cases r1
  obtain ⟨t, u, w, ho⟩ := I1.hok a _ ha
  refine wpAny_pyIter_range (show IsRange s1.heap a 0 (n : Int) 1 t u w from ho) (small_one (by decide) (by decide) (by omega) (by omega)) ?_
  refine ⟨s1.heap.objs.size, [s1.heap.objs.size], _, _, H1, rfl, I1.kept (t' := s1.toks) fun b o e => Heap.get?_push_of_some _ e, turn_range _ 0 n, ?_, fun b hb => ?_, q⟩
  · have e1 : (0 : Int) + ((0 : Nat) : Int) * 1 = 0 := by simp
    have e2 : ((n : Nat) : Int) - ((0 : Nat) : Int) = Builtin.Range.rangeSize 0 (n : Int) 1 := by rw [rangeSize_one]; split <;> omega
    show IsRangeIter _ _ ((0 : Int) + ((0 : Nat) : Int) * 1) (((n : Nat) : Int) - ((0 : Nat) : Int)) 1
    rw [e1, e2]
    exact Heap.get?_push_size _ rfl
  · have e : b = s1.heap.objs.size := by simpa using hb
    subst e
    exact I1.fpOk (Nat.le_refl _) (I1.hok.fresh (Nat.le_refl _))
/-! ### t[::-1] -/
def tRevT (K : PySem.W.Frag) (te : TE) : TE := fun σ H Q => te σ H fun x H1 => ∃ a xs, x = .ref a ∧ SqT K H1 a xs ∧ 2 ≤ xs.length ∧ ∀ p, H1 p = none → Q (.ref p) (upd H1 p (.tup xs.reverse))
/-! ### zip -/
theorem kiZip {tpos p pos : Pos} {elts : List Expr} {kk : Nat} {e e2 : Expr} {ta : TA} (hg : Gl X "zip") (hm : X.mg "zip" = none) (ha : PA X [e, e2] ta) (hK : X.K = K := by rfl)
    (hs : starEach [e, e2] X.env = (false, eval e X.env) :: starEach [e2] X.env := by rfl) (hpl : (backTo pos (starEach [e2] X.env)).any (·.1) = false := by rfl) :
    PI X (.Tuple elts kk tpos) (.Call (.Name "zip" p) [e, e2] [] pos) (RZ.iZipA K ta) := by subst hK; exact RZ.pi_zipA hg hm ha hs hpl
end
/-! ### the inner comprehension's scope -/
def relS (scope outer : Scope) : Scope := { scope with names := scope.names.map fun (n, k) => if (k == .free && outer.kind == .function && outer.names.lookup n == some .cell) then (n, .cell) else (n, k) }
theorem blkOk_in {X : Cx} {s : Shared} {H : Hp} {fp : List Addr} {cl : List (Str × Addr)} {C : Addr} {scope1 scope2 : Scope} {N : List Str} {own : List (Str × Nat)} {sc : Scope} (he : X.env.scope = sc) (h : blkC N (relS scope1 sc) scope2 own = true) :
    BlkOk N (X.blk s H scope1 (compEnvC scope1 cl C X.env) fp).env.scope scope2 own := by
  have : (X.blk s H scope1 (compEnvC scope1 cl C X.env) fp).env.scope = relS scope1 sc := by
    subst he
    rfl
  rw [this]
  exact blkOk_by h
section
variable {Rl : Hp → Hp → Prop} {K : PySem.W.Frag} {H H' : Hp} {σ : L2.St} {te tb : TE} {ta : TA} {tt tt1 : TT} {ds es : List PyData} {wi wi1 : TI} {D : Ends} {u : TS} {d : PyData}
/-- for i in a range that stands -/
theorem evi_rng {a : Addr} {n i : Nat} (hv : σ[i]? = some (some (.ref a))) (ha : H a = some (.rng 0 (n : Int))) (hn : n ≤ 100000) : EvI Kp K (iRngV (tVar i)) σ H (nats n) := fun H1 s R q =>
  ⟨_, hv, a, n, rfl, s _ _ ha, hn, q _ H1 (Same.refl _) itr_nats⟩
theorem DqAll.five {vs : List V} {a b c d e : PyData} (h : DqAll K H vs [a, b, c, d, e]) : ∃ x y z u w, vs = [x, y, z, u, w] ∧ Dq K H x a ∧ Dq K H y b ∧ Dq K H z c ∧ Dq K H u d ∧ Dq K H w e := by
  cases h with
  | cons h0 h => obtain ⟨y, z, u, w, rfl, h1, h2, h3, h4⟩ := h.four; exact ⟨_, _, _, _, _, rfl, h0, h1, h2, h3, h4⟩
theorem evs_tup5 {i j k l m : Nat} {a b c d e : PyData} (h : EvD K te σ H (.tuple [a, b, c, d, e]))
    (q : ∀ x y z u w H1, Same H H1 → Dq K H1 x a → Dq K H1 y b → Dq K H1 z c → Dq K H1 u d → Dq K H1 w e → D.nx (((((σ.set i (some x)).set j (some y)).set k (some z)).set l (some u)).set m (some w)) H1) :
    tAsg te (gTup K 5 (gCons (gName i) (gCons (gName j) (gCons (gName k) (gCons (gName l) (gCons (gName m) gNil)))))) D σ H := h.use _ fun v H1 s p => by
  obtain ⟨ad, xs, rfl, h1, h2⟩ := p.tupE
  obtain ⟨x, y, z, u, w, rfl, k1, k2, k3, k4, k5⟩ := h2.five
  exact ⟨ad, _, rfl, h1, rfl, x, _, rfl, y, _, rfl, z, _, rfl, u, _, rfl, w, _, rfl, rfl, q x y z u w H1 s k1 k2 k3 k4 k5⟩
theorem evq_tup5 {i j k l m : Nat} {a b c d e : PyData} (h : EvD K te σ H (.tuple [a, b, c, d, e]))
    (q : ∀ x y z v w H1, Same H H1 → Dq K H1 x a → Dq K H1 y b → Dq K H1 z c → Dq K H1 v d → Dq K H1 w e → u D (((((σ.set i (some x)).set j (some y)).set k (some z)).set l (some v)).set m (some w)) H1) :
    tSeq (tAsg te (gTup K 5 (gCons (gName i) (gCons (gName j) (gCons (gName k) (gCons (gName l) (gCons (gName m) gNil))))))) u D σ H := evs_tup5 h q
/-- zip of two tuples -/
def zipD (ds es : List PyData) : List PyData := List.zipWith (fun a b => .tuple [a, b]) ds es
theorem zipD_get {i : Nat} {d : PyData} (h : (zipD ds es)[i]? = some d) : ∃ a b, ds[i]? = some a ∧ es[i]? = some b ∧ d = .tuple [a, b] := by
  unfold zipD at h
  rw [List.getElem?_zipWith] at h
  cases e1 : ds[i]? with
  | none => rw [e1] at h; simp at h
  | some a =>
    cases e2 : es[i]? with
    | none => rw [e1, e2] at h; simp at h
    | some b =>
      rw [e1, e2] at h
      exact ⟨a, b, rfl, rfl, by simpa using h.symm⟩
theorem zipD_len : (zipD ds es).length = min ds.length es.length := by unfold zipD; simp
theorem evi_zipT (h : EvA K ta σ H [.tuple ds, .tuple es]) : EvI Kp K (RZ.iZipA K ta) σ H (zipD ds es) := fun H1 s R q => h H1 s _ fun vs H2 s2 p2 => by
  obtain ⟨x, y, rfl, d1, d2⟩ := p2.two
  obtain ⟨a, xs, rfl, h1, h2⟩ := d1.tupE
  obtain ⟨b, ys, rfl, k1, k2⟩ := d2.tupE
  have lx := h2.length
  have ly := k2.length
  have lz := zipD_len (ds := ds) (es := es)
  refine ⟨a, b, xs, ys, rfl, .inr ⟨h1, k1, q _ H2 s2 ⟨fun H' k => ?_, fun i d H' e k => ?_, fun i d x H' H'' e k y => ?_⟩⟩⟩
  · exact ⟨xs, ys, sqT_kp k h1, sqT_kp k k1, by omega⟩
  · obtain ⟨a', b', e1, e2, _⟩ := zipD_get e
    obtain ⟨v, hv, _⟩ := h2.get e1
    obtain ⟨v', hv', _⟩ := k2.get e2
    exact ⟨xs, ys, v, v', sqT_kp k h1, sqT_kp k k1, hv, hv'⟩
  · obtain ⟨a', b', e1, e2, rfl⟩ := zipD_get e
    obtain ⟨T, v, v', rfl, hT, rfl, z1, z2⟩ := y
    obtain ⟨w, hw, dw⟩ := h2.get e1
    obtain ⟨w', hw', dw'⟩ := k2.get e2
    have q1 := (z1 xs (sqT_kp k h1)).symm.trans hw
    have q2 := (z2 ys (sqT_kp k k1)).symm.trans hw'
    cases q1; cases q2
    exact ⟨same_new hT, .tup (.inl (.inl upd_same)) (.cons ((dw.kp k).mono (same_new hT)) (.one ((dw'.kp k).mono (same_new hT))))⟩
theorem yesI {A B : Hp → Prop} (h : A H) : tYes σ H (fun b H3 => if b = true then A H3 else B H3) := iteT (B := B H) h
/-- all but the list at D stands -/
theorem kp_but {D : Addr} {xs ys : List V} (h : H D = some (.lst xs)) (h' : H' D = some (.lst ys)) (sb : ∀ a u, a ≠ D → H a = some u → H' a = some u) : Kp H H' := by
  have rd : ∀ a u, a ≠ D → Rd H a u → Rd H' a u := fun a u ne r => by
    rcases r with r | ⟨o, r⟩
    · exact .inl (sb a _ ne r)
    · exact .inr ⟨o, sb a _ ne r⟩
  refine ⟨fun a zs r => ?_, fun a zs r => ?_⟩
  · by_cases c : a = D
    · subst c
      rcases r with r | ⟨o, r⟩ <;> (rw [h] at r; cases r)
    · exact rd a _ c r
  · by_cases c : a = D
    · subst c
      exact ⟨ys, .inl h'⟩
    · exact ⟨zs, rd a _ c r⟩
/-- [e for x in .. for y in ..]; fs: the second source's data; f: the element's -/
theorem evl_lc2R {i j : Nat} {Rl1 : Hp → Hp → Prop} {fs : PyData → List PyData} {f : PyData → PyData → PyData} (hs : EvI Same K wi σ H ds) (hl : (ds.flatMap fun d => (fs d).map (f d)).length ≤ 100000)
    (hk1 : ∀ D H4 H5, H D = none → Same H H4 → (∃ xs, H4 D = some (.lst xs)) → (∃ ys, H5 D = some (.lst ys)) → (∀ a u, a ≠ D → H4 a = some u → H5 a = some u) → Rl1 H4 H5)
    (h1 : ∀ d x H1, d ∈ ds → Same H H1 → Dq K H1 x d → EvI Rl1 K wi1 ((wipe σ [i, j]).set i (some x)) H1 (fs d))
    (h2 : ∀ d e x y H1, d ∈ ds → e ∈ fs d → Same H H1 → Dq K H1 x d → Dq K H1 y e → EvD K te ((wipe ((wipe σ [i, j]).set i (some x)) [j]).set j (some y)) H1 (f d e))
    (hw1 : ∀ x : V, wipe ((wipe σ [i, j]).set i (some x)) [i, j] = wipe σ [i, j] := by intro _; rfl)
    (hw2 : ∀ x y : V, wipe ((wipe ((wipe σ [i, j]).set i (some x)) [j]).set j (some y)) [j] = wipe ((wipe σ [i, j]).set i (some x)) [j] := by intro _ _; rfl) :
    EvL K (tLc2 wi (gName i) tYes wi1 (gName j) tYes te [i, j] [j]) σ H (ds.flatMap fun d => (fs d).map (f d)) := fun H1 s Q q => by
  refine hs H1 s _ fun J H2 s2 it => fun D hD => ?_
  have hD0 : H D = none := (s.trans s2).free hD
  have take_s : ∀ {k : Nat} (hk : k < ds.length), (ds.take (k + 1)).flatMap (fun d => (fs d).map (f d)) = (ds.take k).flatMap (fun d => (fs d).map (f d)) ++ (fs ds[k]).map (f ds[k]) := fun {k} hk => by
    rw [List.take_add_one, List.flatMap_append, List.getElem?_eq_getElem hk]
    simp
  have take_l : ∀ {k : Nat}, k ≤ ds.length → ((ds.take k).flatMap fun d => (fs d).map (f d)).length ≤ (ds.flatMap fun d => (fs d).map (f d)).length := fun {k} hk => by
    conv => rhs; rw [← List.take_append_drop k ds, List.flatMap_append, List.length_append]
    omega
  refine ⟨fun k m H' => m = ds.length - k ∧ k ≤ ds.length ∧ Same H2 H' ∧ ∃ acc, H' D = some (.lst acc) ∧ DqAll K H' acc ((ds.take k).flatMap fun d => (fs d).map (f d)), ⟨ds.length, by simp, Nat.zero_le _, same_new hD, [], upd_same, by simpa using DqAll.nil⟩, ?_⟩
  rintro k m H' ⟨rfl, hk, s', acc, ea, da⟩
  by_cases hlt : k < ds.length
  · have e : ds[k]? = some ds[k] := List.getElem?_eq_getElem hlt
    have hmem : ds[k] ∈ ds := List.getElem_mem hlt
    refine .inr ⟨it.go k _ H' e s', fun H'' => k + 1 ≤ ds.length ∧ Same H2 H'' ∧ ∃ acc, H'' D = some (.lst acc) ∧ DqAll K H'' acc ((ds.take (k + 1)).flatMap fun d => (fs d).map (f d)), fun H'' ⟨a, b, c⟩ => ⟨ds.length - (k + 1), by omega, rfl, a, b, c⟩, fun x H'' y => ?_⟩
    obtain ⟨s3, dx⟩ := it.yld k ds[k] x H' H'' e s' y
    have s03 : Same H H'' := ((s.trans s2).trans s').trans s3
    refine ⟨hw1 x, ?_⟩
    refine yesI (B := fun H3 => _) ?_
    refine h1 ds[k] x H'' hmem s03 dx H'' (Same.refl _) _ fun J1 H4 s4 it1 => ?_
    have tot := take_l (k := k + 1) hlt
    rw [take_s hlt, List.length_append, List.length_map] at tot
    have ea4 : H4 D = some (.lst acc) := s4 _ _ (s3 _ _ ea)
    have s24 : Same H2 H4 := (s'.trans s3).trans s4
    refine ⟨fun l m' H5 => m' = (fs ds[k]).length - l ∧ l ≤ (fs ds[k]).length ∧ (∀ a u, a ≠ D → H4 a = some u → H5 a = some u) ∧ ∃ acc', H5 D = some (.lst acc') ∧ DqAll K H5 acc' ((ds.take k).flatMap (fun d => (fs d).map (f d)) ++ ((fs ds[k]).take l).map (f ds[k])), ⟨(fs ds[k]).length, by simp, Nat.zero_le _, fun a o _ h => h, acc, ea4, by simpa using da.mono (s3.trans s4)⟩, ?_⟩
    rintro l m' H5 ⟨rfl, hl5, sb, acc', ea5, da5⟩
    have kp45 : Kp H4 H5 := kp_but ea4 ea5 sb
    have s25 : Same H2 H5 := fun a u h => by
      have ne : a ≠ D := fun z => by rw [z, hD] at h; cases h
      exact sb a u ne (s24 a u h)
    have rl : Rl1 H4 H5 := hk1 D H4 H5 hD0 (s03.trans s4) ⟨_, ea4⟩ ⟨_, ea5⟩ sb
    by_cases hl2 : l < (fs ds[k]).length
    · have e2 : (fs ds[k])[l]? = some (fs ds[k])[l] := List.getElem?_eq_getElem hl2
      refine .inr ⟨it1.go l _ H5 e2 rl, fun H6 => l + 1 ≤ (fs ds[k]).length ∧ (∀ a u, a ≠ D → H4 a = some u → H6 a = some u) ∧ ∃ acc', H6 D = some (.lst acc') ∧ DqAll K H6 acc' ((ds.take k).flatMap (fun d => (fs d).map (f d)) ++ ((fs ds[k]).take (l + 1)).map (f ds[k])), fun H6 ⟨a, b, c⟩ => ⟨(fs ds[k]).length - (l + 1), by omega, rfl, a, b, c⟩, fun z H6 yz => ?_⟩
      obtain ⟨s56, dz⟩ := it1.yld l (fs ds[k])[l] z H5 H6 e2 rl yz
      refine ⟨hw2 x z, ?_⟩
      refine yesI (B := fun H3 => _) ?_
      have dx6 : Dq K H6 x ds[k] := ((dx.mono s4).kp kp45).mono s56
      have s06 : Same H H6 := ((s.trans s2).trans s25).trans s56
      refine (h2 ds[k] (fs ds[k])[l] x z H6 hmem (List.getElem_mem hl2) s06 dx6 dz).run (Same.refl _) fun v H7 s67 p7 => ?_
      have ea7 : H7 D = some (.lst acc') := s67 _ _ (s56 _ _ ea5)
      have len : acc'.length ≤ 100000 := by
        rw [da5.length, List.length_append, List.length_map, List.length_take]
        omega
      refine ⟨acc', ea7, len100 len, hl2, fun a u ne h => ?_, _, upd_same, ?_⟩
      · rw [upd_ne ne]
        exact s67 _ _ (s56 _ _ (sb a u ne h))
      · have tk : ((fs ds[k]).take (l + 1)).map (f ds[k]) = ((fs ds[k]).take l).map (f ds[k]) ++ [f ds[k] (fs ds[k])[l]] := by
          rw [List.take_add_one, e2, List.map_append]; rfl
        rw [tk, ← List.append_assoc]
        exact ((da5.mono (s56.trans s67)).kp (.updL ea7)).snoc (p7.kp (.updL ea7))
    · have e3 : l = (fs ds[k]).length := by omega
      subst e3
      refine .inl ⟨it1.stop H5 rl, hlt, s25, acc', ea5, ?_⟩
      rw [List.take_length] at da5
      rw [take_s hlt]
      exact da5
  · have hk' : k = ds.length := by omega
    subst hk'
    refine .inl ⟨it.stop H' s', ?_⟩
    rw [List.take_length] at da
    exact q D acc H' (s2.free hD) (s2.trans s') ea da
theorem hk_kp {H : Hp} (D : Addr) (H4 H5 : Hp) (_ : H D = none) (_ : Same H H4) (h4 : ∃ xs, H4 D = some (.lst xs)) (h5 : ∃ ys, H5 D = some (.lst ys)) (sb : ∀ a u, a ≠ D → H4 a = some u → H5 a = some u) : Kp H4 H5 :=
  let ⟨_, a⟩ := h4; let ⟨_, b⟩ := h5; kp_but a b sb
end
end KD

set_option maxRecDepth 100000
set_option maxHeartbeats 2000000
/-! A dict that numbers nested tuples: in, get, a new number. -/
namespace KD
open PySem PySem.Spec PyProof.Rows L2
/-- the keys of a numbering dict are what they are -/
def KeysOk (K : PySem.W.Frag) (H : Hp) (ks : List (PyData × Addr)) : Prop := ∀ x ∈ ks, Dq K H (.ref x.2) x.1 ∧ keyable 8 x.1 = true
theorem KeysOk.kp {K : PySem.W.Frag} {H H' : Hp} {ks : List (PyData × Addr)} (h : KeysOk K H ks) (k : Kp H H') : KeysOk K H' ks := fun x hx => ⟨(h x hx).1.kp k, (h x hx).2⟩
theorem KeysOk.mono {K : PySem.W.Frag} {H H' : Hp} {ks : List (PyData × Addr)} (h : KeysOk K H ks) (k : Same H H') : KeysOk K H' ks := h.kp (.of k)
def tHIn (K : PySem.W.Frag) (P : Program) (w : World) (ty td : TE) : TE := fun σ H Q => ty σ H fun y H1 => td σ H1 fun x H2 => ∃ (a : Addr) (ks : List (PyData × Addr)) (d : PyData) (b : Addr), x = .ref a ∧ H2 a = some (NumT P w a ks) ∧ KeysOk K H2 ks ∧ y = .ref b ∧ Dq K H2 (.ref b) d ∧ keyable 8 d = true ∧ Q (.bl (decide (d ∈ ks.map (·.1)))) H2
def tHGet (K : PySem.W.Frag) (P : Program) (w : World) (td ty : TE) : TE := fun σ H Q => td σ H fun x H1 => ty σ H1 fun y H2 => ∃ (a : Addr) (ks : List (PyData × Addr)) (d : PyData) (b : Addr) (n : Nat), x = .ref a ∧ H2 a = some (NumT P w a ks) ∧ KeysOk K H2 ks ∧ y = .ref b ∧ Dq K H2 (.ref b) d ∧ keyable 8 d = true ∧ (ks.map (·.1))[n]? = some d ∧ Q (.int (n : Nat)) H2
def sHPut (K : PySem.W.Frag) (P : Program) (w : World) (td ty tv : TE) : TS := fun D σ H => tv σ H fun v H1 => td σ H1 fun x H2 => ty σ H2 fun y H3 => ∃ (a : Addr) (ks : List (PyData × Addr)) (d : PyData) (b : Addr), x = .ref a ∧ H3 a = some (NumT P w a ks) ∧ KeysOk K H3 ks ∧ y = .ref b ∧ Dq K H3 (.ref b) d ∧ keyable 8 d = true ∧ v = .int (ks.length : Nat) ∧ ks.length < 100000 ∧ d ∉ ks.map (·.1) ∧ D.nx σ (upd H3 a (NumT P w a (ks ++ [(d, b)])))
section
variable {X : Cx} {K : PySem.W.Frag} {P : Program} {w : World} {o i value : Expr} {td ty tv : TE} {pos pos' : Pos}
theorem at_none {ys : List (PyData × Addr × Value)} {d : PyData} (h : d ∉ ys.map (·.1)) : atKey ys d = none := by
  unfold atKey
  rw [Option.map_eq_none_iff, List.find?_eq_none]
  intro y hy z
  exact h (List.mem_map.mpr ⟨y, hy, of_decide_eq_true z⟩)
theorem at_some {ys : List (PyData × Addr × Value)} {d : PyData} (h : d ∈ ys.map (·.1)) : ∃ (i : Nat) (b : Addr) (v : Value), ys[i]? = some (d, b, v) ∧ atKey ys d = some (b, v) := by
  cases e : ys.find? (fun x => decide (x.1 = d)) with
  | none =>
    rw [List.find?_eq_none] at e
    obtain ⟨y, hy, z⟩ := List.mem_map.mp h
    exact absurd (decide_eq_true z) (e y hy)
  | some y =>
    obtain ⟨d', b, v⟩ := y
    have e1 : d' = d := by simpa using List.find?_some e
    subst e1
    obtain ⟨i, hi⟩ := List.mem_iff_getElem?.mp (List.mem_of_find?_eq_some e)
    exact ⟨i, b, v, hi, by unfold atKey; rw [e]; rfl⟩
theorem pc_hin (hu : X.A.units + 64 < cLine) (hi : PE X i ty) (ho : PE X o td) (hK : X.K = K := by rfl) (hP : X.prog = P := by rfl) (hw : X.w = w := by rfl) : PC X .In i o (tHIn K P w ty td) := by
  subst hK hP hw
  refine ⟨fun pins s σ H Q I h => ?_⟩
  refine thn (hi.run pins s σ H _ I h) fun iv s1 ⟨y, H1, I1, ry, q1⟩ => thn (ho.run pins s1 σ H1 _ I1 q1) fun u s2 ⟨x, H2, I2, rx, a, ks, d, b, ex, ha, hk, ey, dd, kd, q2⟩ => ?_
  subst ex ey
  obtain rfl : u = Value.ref a := rx
  obtain rfl : iv = Value.ref b := ry
  obtain ⟨h1, h2, nd, ys, h4, h5, hD⟩ := dictH_of I2 ha hk
  have keys : ks.map (·.1) = ys.map (·.1) := by rw [← h4, List.map_map]; rfl
  refine wpAny_in_heap (knd := dataKind X.prog X.w) (k := d) (xs := ys) (show X.A.in1.units + 8 < cLine by show X.A.units + 1 + 8 < cLine; omega) (keyAt_of I2 dd kd) h1 hD ?_
  have e : (atKey ys d).isSome = decide (d ∈ ks.map (·.1)) := by
    rw [keys]
    by_cases c : d ∈ ys.map (·.1)
    · obtain ⟨_, _, _, _, e⟩ := at_some c
      rw [e, decide_eq_true c]; rfl
    · rw [at_none c, decide_eq_false c]; rfl
  rw [e]
  exact ⟨.bl _, H2, I2.tok _, rfl, q2⟩
theorem pe_hget (hu : X.A.units + 64 < cLine) (ho : PE X o td) (hi : PE X i ty) (hs : NoSl i) (hK : X.K = K := by rfl) (hP : X.prog = P := by rfl) (hw : X.w = w := by rfl) : PE X (.Subscript o i pos) (tHGet K P w td ty) := by
  subst hK hP hw
  refine ⟨fun pins s σ H Q I h => ?_⟩
  refine subD_of PySem.F.slot_dict_getitem.lookup hs (thn (ho.run pins s σ H _ I h) fun u s1 ⟨x, H1, I1, rx, q1⟩ => thn (hi.run pins s1 σ H1 _ I1 q1) fun iv s2 ⟨y, H2, I2, ry, a, ks, d, b, n, ex, ha, hk, ey, dd, kd, hn, q2⟩ => ?_)
  subst ex ey
  obtain rfl : u = Value.ref a := rx
  obtain rfl : iv = Value.ref b := ry
  obtain ⟨h1, h2, nd, ys, h4, h5, hD⟩ := dictH_of I2 ha hk
  have keys : ks.map (·.1) = ys.map (·.1) := by rw [← h4, List.map_map]; rfl
  obtain ⟨m, b', v, hm, e⟩ := at_some (ys := ys) (d := d) (by rw [← keys]; exact List.mem_of_getElem? hn)
  obtain ⟨t, rfl⟩ := h5 m d b' v hm
  have hm' : (ks.map (·.1))[m]? = some d := by rw [keys, List.getElem?_map, hm]; rfl
  have hmn : m = n := (List.getElem?_inj (List.getElem?_eq_some_iff.mp hm').1 nd).mp (hm'.trans hn.symm)
  subst hmn
  refine ⟨hD.typeIs, ?_⟩
  exact wpAny_getItem_heap (knd := dataKind X.prog X.w) (k := d) (xs := ys) (show X.A.in1.units + 8 < cLine by show X.A.units + 1 + 8 < cLine; omega) (keyAt_of I2 dd kd) hD e ⟨.int (m : Nat), H2, I2.tok _, ⟨t, rfl⟩, q2⟩
theorem ps_hput (hu : X.A.units + 64 < cLine) (ho : PE X o td) (hi : PE X i ty) (hv : PE X value tv) (hs : swapsWith value (some (.Subscript o i pos')) pos.line X.env = pure false) (hK : X.K = K := by rfl) (hP : X.prog = P := by rfl) (hw : X.w = w := by rfl) :
    PS X (.Assign [.Subscript o i pos'] value pos) (sHPut K P w td ty tv) := by
  subst hK hP hw
  refine ⟨fun pins s σ H D I h => ?_⟩
  refine wpAny_Assign_Subscript (thn (hv.run pins s σ H _ I h) fun r s1 ⟨v, H1, I1, rv, q1⟩ => thn (ho.run pins s1 σ H1 _ I1 q1) fun u s2 ⟨x, H2, I2, rx, q2⟩ => thn (hi.run pins s2 σ H2 _ I2 q2) fun iv s3 ⟨y, H3, I3, ry, a, ks, d, b, ex, ha, hk, ey, dd, kd, ev, hl, nin, q3⟩ => ?_) hs
  subst ex ey ev
  obtain rfl : u = Value.ref a := rx
  obtain rfl : iv = Value.ref b := ry
  obtain ⟨h1, h2, nd, ys, h4, h5, hD⟩ := dictH_of I3 ha hk
  have keys : ks.map (·.1) = ys.map (·.1) := by rw [← h4, List.map_map]; rfl
  have hyl : ys.length = ks.length := by rw [← h4, List.length_map]
  refine wpAny_setItem_heap (knd := dataKind X.prog X.w) (k := d) (xs := ys) (show X.A.in1.units + 8 < cLine by show X.A.units + 1 + 8 < cLine; omega) (keyAt_of I3 dd kd) hD (fun h' dd' sb => ?_) (by rw [sizeLine_eq]; omega)
  rw [storedH_new (at_none (by rw [← keys]; exact nin))] at dd'
  obtain ⟨tf, rfl⟩ := rv
  obtain ⟨oo, es, ep, g1, g2, g3, g4, g5, g6⟩ := dd'
  refine ⟨σ, _, d_write (t' := s3.toks + drawsD d) I3 (tracked_ext ha) sb ⟨oo, g1⟩ (numT_ok (ks := ks ++ [(d, b)]) (ys := ys ++ [(d, b, _)]) h1 (by rw [sizeLine_eq]; simp; omega) (by simp [h4]) (fun i d2 b2 v2 e2 => ?_) ?_ ⟨oo, es, ep, g1, g2, g3, g4⟩), q3⟩
  · by_cases c : i < ys.length
    · rw [List.getElem?_append_left c] at e2
      exact h5 i d2 b2 v2 e2
    · rw [List.getElem?_append_right (by omega)] at e2
      by_cases c2 : i - ys.length = 0
      · rw [c2] at e2
        simp at e2
        have : i = ks.length := by omega
        rw [this]
        exact ⟨tf, e2.2.2.symm⟩
      · rw [List.getElem?_eq_none (by simp; omega)] at e2
        cases e2
  · rw [List.map_append, keys]
    rw [List.map_append] at g6
    exact g6
theorem kDNewH (hP : X.prog = P := by rfl) (hw : X.w = w := by rfl) : PE X (.Dict [] [] pos) (tDNewH P w) := by subst hP hw; exact pe_dnewH
end
end KD

set_option maxRecDepth 100000
set_option maxHeartbeats 2000000
/-! sorted(set(..)) and sorted(..) of ints and of tuples of ints. -/
namespace KD
open PySem PySem.Spec PyProof.Rows L2
def tupI (k : List Int) : PyData := .tuple (k.map .int)
theorem tupI_lt (x y : List Int) : PySem.W.dataLt (tupI x) (tupI y) = decide (x < y) := by
  unfold tupI
  rw [PySem.W.dataLt_tuple]
  exact PySem.W.dataLt_ints x y
theorem leI_trans {a b c : List Int} (h : a ≤ b) (h' : b ≤ c) : a ≤ c := List.le_trans h h'
theorem leI_total (a b : List Int) : a ≤ b ∨ b ≤ a := List.le_total a b
theorem dataLe_tup : (PySem.W.dataLe false fun p : Addr × List Int => tupI p.2) = fun p q => decide (p.2 ≤ q.2) := by
  funext p q
  show (!PySem.W.dataLt (tupI q.2) (tupI p.2)) = _
  rw [tupI_lt]
  by_cases h : q.2 < p.2
  · have h' : ¬ p.2 ≤ q.2 := fun r => List.not_lt.mpr r h
    simp [h, h']
  · have h' : p.2 ≤ q.2 := List.not_lt.mp h
    simp [h, h']
theorem sortP (L : List (Addr × List Int)) : (L.mergeSort fun p q => decide (p.2 ≤ q.2)).Perm L ∧ (L.mergeSort fun p q => decide (p.2 ≤ q.2)).Pairwise (fun p q => p.2 ≤ q.2) := by
  refine ⟨List.mergeSort_perm _ _, ?_⟩
  have := List.pairwise_mergeSort (le := fun p q : Addr × List Int => decide (p.2 ≤ q.2)) (fun a b c h h' => decide_eq_true (leI_trans (of_decide_eq_true h) (of_decide_eq_true h'))) (fun a b => by
    rcases leI_total a.2 b.2 with h | h
    · simp [h]
    · simp [h]) L
  exact this.imp fun h => of_decide_eq_true h
theorem alike_tup (x y : List Int) : PySem.W.alike (tupI x) (tupI y) = true := by
  unfold tupI
  simp only [PySem.W.alike]
  induction x generalizing y with
  | nil => simp [PySem.W.alikeAll]
  | cons a x ih =>
    cases y with
    | nil => simp [PySem.W.alikeAll]
    | cons b y => simpa [PySem.W.alikeAll, PySem.W.alike] using ih y
theorem depth_tup (x : List Int) : (tupI x).depth ≤ 1 := by
  unfold tupI
  simp only [PyData.depth]
  have : PyData.depthAll (x.map PyData.int) = 0 := by
    induction x with
    | nil => simp [PyData.depthAll]
    | cons a x ih => simp [PyData.depthAll, PyData.depth, ih]
  omega
theorem sortable_tup {L : List (Addr × List Int)} (h : ∀ p ∈ L, p.2 ≠ []) : PySem.W.Sortable (L.map fun p => tupI p.2) := .inl fun d hd => by
  obtain ⟨p, hp, rfl⟩ := List.mem_map.mp hd
  cases e : p.2 with
  | nil => exact absurd e (h p hp)
  | cons a r => exact ⟨.int a, r.map .int, by unfold tupI; rw [List.map_cons]⟩
theorem allAlike_tup (L : List (Addr × List Int)) : PySem.W.AllAlike (L.map fun p => tupI p.2) := fun d hd d' hd' => by
  obtain ⟨p, hp, rfl⟩ := List.mem_map.mp hd
  obtain ⟨q, hq, rfl⟩ := List.mem_map.mp hd'
  exact alike_tup _ _
theorem eachP {R : Value → Addr × List Int → Prop} : ∀ {L : List (Addr × List Int)}, (∀ p ∈ L, R (.ref p.1) p) → PySem.W.EachIs R (L.map fun p => Value.ref p.1) L
  | [], _ => .nil
  | p :: L, h => .cons (h p List.mem_cons_self) (eachP fun q hq => h q (List.mem_cons_of_mem _ hq))
theorem eachP_eq : ∀ {out : List Value} {L : List (Addr × List Int)}, PySem.W.EachIs (fun v p => v = Value.ref p.1) out L → out = L.map fun p => Value.ref p.1
  | _, _, .nil => rfl
  | _, _, .cons h t => by rw [h, eachP_eq t]; rfl
theorem reads_P {h : Heap} {b : Addr} {k : List Int} (x : TS.TupInts h (.ref b) k) : Reads h (.ref b) (tupI k) [] := by
  obtain ⟨t, items, e, ht, hi⟩ := x
  cases e
  exact reads_tuple_ints (vr := items.toList) (by simpa using ht) hi
section
variable {P : Program} {w : World} {A : Around} {E : Value → Shared → Prop} {s : Shared}
theorem sorted_setL {a : Addr} {L : List (Addr × List Int)} {es : Array (Int × Value)} {ep : Nat} {t : SetTable} {Q : Value → Shared → Prop} (R : SetTR P w s.heap a L es ep t) (hh : A.handled = none) (hu : A.units + 16 < cLine)
    (hB : ∀ p ∈ L, p.2 ≠ [])
    (hQ : ∀ s' p (out : Array Value) (c : Nat) (L' : List (Addr × List Int)), (∀ b o, s.heap.get? b = some o → s'.heap.get? b = some o) → s'.gens = s.gens → s'.os = s.os → s.heap.objs.size ≤ p →
      s'.heap.get? p = some (seqObj "list" out c) → out.toList = L'.map (fun q => Value.ref q.1) → L'.Perm L → L'.Pairwise (fun q r => q.2 ≤ r.2) → Q (.ref p) s') :
    wpAny (model P w) A (call (.builtin "sorted") [.ref a]) Q E s := by
  obtain ⟨o, ho, hex, hd⟩ := R.ob
  have hsz := R.size
  have hfew := R.few
  refine Calls.call_function_entry kind_sorted plain_sorted entry_sorted (args_sorted1 _) ?_
  unfold Builtin.«sorted»
  refine wpAny_bind (m := checkCount "sorted" 1 1 _) (wpAny_pure ?_)
  refine wpAny_bind (collect_set (A := A.in1) hh ⟨o, ho, hex.1, hd⟩ R.fits (by unfold scanBound; omega) R.tab.ris R.led fun s1 vs k1 hz g1 o1 pm => ?_)
  have hes : es.toList.map (·.2) = L.map fun q => Value.ref q.1 := by
    rw [R.rows]
    unfold rowsOf
    rw [List.map_map] <;> rfl
  rw [hes] at pm
  have ord : ∀ vs : List Value, (∀ v ∈ vs, ∃ q ∈ L, v = Value.ref q.1) → ∃ L1 : List (Addr × List Int), vs = L1.map (fun q => Value.ref q.1) ∧ ∀ q ∈ L1, q ∈ L := by
    intro vs
    induction vs with
    | nil => intro _; exact ⟨[], rfl, fun q hq => (by cases hq)⟩
    | cons v vs ih =>
      intro hv
      obtain ⟨q, hq, e⟩ := hv v List.mem_cons_self
      obtain ⟨L1, e1, hs⟩ := ih fun u hu => hv u (List.mem_cons_of_mem _ hu)
      refine ⟨q :: L1, by rw [List.map_cons, e, e1], fun r hr => ?_⟩
      rcases List.mem_cons.mp hr with z | z
      · rw [z]; exact hq
      · exact hs r z
  have one : ∀ q ∈ L, ∀ r ∈ L, q.1 = r.1 → q = r := fun q hq r hr e => by
    have a1 := R.tup q hq
    have a2 := R.tup r hr
    rw [e] at a1
    have e2 : q.2 = r.2 := a1.inj a2
    exact Prod.ext e e2
  have perm_of : ∀ L1 : List (Addr × List Int), (∀ q ∈ L1, q ∈ L) → (L1.map (fun q => Value.ref q.1)).Perm (L.map fun q => Value.ref q.1) → L1.Perm L := by
    intro L1 hs pm1
    have nL : L.Nodup := nodup_of_map R.nd
    have nref : (L.map fun q => Value.ref q.1).Nodup := by
      refine List.pairwise_map.mpr (List.Pairwise.imp_of_mem (fun {q r} hq hr hne e => ?_) nL)
      injection e with e
      exact hne (one q hq r hr e)
    have n1 : L1.Nodup := nodup_of_map (pm1.nodup_iff.mpr nref)
    refine (List.perm_ext_iff_of_nodup n1 nL).mpr fun q => ⟨hs q, fun hq => ?_⟩
    have hm : Value.ref q.1 ∈ L1.map (fun q => Value.ref q.1) := pm1.mem_iff.mpr (List.mem_map.mpr ⟨q, hq, rfl⟩)
    obtain ⟨r, hr, e⟩ := List.mem_map.mp hm
    injection e with e
    rw [← one r (hs r hr) q hq e]
    exact hr
  have hvl : vs.length < 64 := by rw [pm.length_eq, List.length_map]; exact hfew
  refine wpAny_bind (wpAny_newList ?_ (by rw [sizeLine_eq]; omega))
  have hoL : (s1.heap.push (seqObj "list" vs.toArray 0)).get? s1.heap.objs.size = some (seqObj "list" vs.toArray 0) := Heap.get?_push_size _ rfl
  have tk : ∀ q ∈ L, TS.TupInts (s1.heap.push (seqObj "list" vs.toArray 0)) (.ref q.1) q.2 := fun q hq => tupInts_of (P := P) (w := w) (isT_keep (R.tup q hq) fun b u e => Heap.get?_push_of_some _ (k1 b u e))
  obtain ⟨L1, eL1, hs1⟩ := ord vs fun v hv => by
    obtain ⟨q, hq, e⟩ := List.mem_map.mp (pm.mem_iff.mp hv)
    exact ⟨q, hq, e.symm⟩
  have pL1 : L1.Perm L := perm_of L1 hs1 (by rw [← eL1]; exact pm)
  have l1 : L1.length = vs.length := by rw [eL1, List.length_map]
  have eR : PySem.W.EachIs (fun v (p : Addr × List Int) => v = Value.ref p.1) vs L1 := by rw [eL1]; exact eachP fun _ _ => rfl
  have er : PySem.W.EachIs (fun v (p : Addr × List Int) => ∃ as, Reads (s1.heap.push (seqObj "list" vs.toArray 0)) v (tupI p.2) as ∧ s1.heap.objs.size ∉ as) vs L1 := by
    conv => arg 2; rw [eL1]
    exact eachP fun p hp => ⟨[], reads_P (tk p (hs1 p hp)), by simp⟩
  refine wpAny_bind (wpAny_holding (PySem.W.list_sort_data (s := { s1 with heap := s1.heap.push (seqObj "list" vs.toArray 0) }) hoL eR er (allAlike_tup L1) (sortable_tup fun p hp => hB p (hs1 p hp)) (by rw [l1, sizeLine_eq]; omega)
    (fun b _ => by have := depth_tup b.2; show A.units + 1 + 1 + (tupI b.2).depth < cLine; omega) fun out hol ho2 => ?_))
  rw [dataLe_tup] at ho2
  have eo := eachP_eq ho2
  obtain ⟨sp1, sp2⟩ := sortP L1
  obtain ⟨c, hc⟩ := sortedHeap_at (vs := vs) (out := out.toArray) hoL
  refine wpAny_pure ⟨_, rfl, hQ _ s1.heap.objs.size out.toArray c _ (fun b u e => ?_) g1 o1 hz hc (by simpa using eo) (sp1.trans pL1) sp2⟩
  have q := k1 b u e
  have hlt := Heap.lt_size q
  show (sortedHeap (s1.heap.push (seqObj "list" vs.toArray 0)) s1.heap.objs.size vs out.toArray).get? b = some u
  rw [sortedHeap_old (Nat.ne_of_lt hlt) (by rw [size_push']; exact Nat.lt_succ_of_lt hlt)]
  exact Heap.get?_push_of_some _ q
end
end KD

set_option maxRecDepth 100000
set_option maxHeartbeats 2000000
/-! The rules and readings of sorted(set(..)). -/
namespace KD
open PySem PySem.Spec PyProof.Rows L2
section
variable {X : Cx} {K : PySem.W.Frag} {P : Program} {w : World}
theorem kSetT (hc : X.calm = true) (hu : X.A.units + 64 < cLine) (hK : X.K = K := by rfl) (hP : X.prog = P := by rfl) (hw : X.w = w := by rfl) : CallR X (.type "set") (rSetOfT K P w) := by subst hK hP hw; exact cr_setOfT hc hu
def rSortedL (K : PySem.W.Frag) (P : Program) (w : World) : List V → Hp → VK → Prop := fun vs H Q => ∃ (a : Addr) (L : List (Addr × List Int)), vs = [V.ref a] ∧ H a = some (SetTO P w a L) ∧ (∀ p ∈ L, SqT K H p.1 (p.2.map V.int)) ∧ (∀ p ∈ L, p.2 ≠ []) ∧
  ∀ (L' : List (Addr × List Int)) (p : Addr), L'.Perm L → (L'.map (·.2)).Nodup → L'.Pairwise (fun q r => q.2 ≤ r.2) → H p = none → Q (.ref p) (upd H p (.lst (L'.map fun q => V.ref q.1)))
theorem kSortedSetT (hc : X.calm = true) (hu : X.A.units + 64 < cLine) (hK : X.K = K := by rfl) (hP : X.prog = P := by rfl) (hw : X.w = w := by rfl) : CallR X (.builtin "sorted") (rSortedL K P w) := by
  subst hK hP hw
  intro pins s σ H vs us Q I r h
  obtain ⟨a, L, rfl, ha, hk, hB, q⟩ := h
  have R0 : SetT0 X.prog X.w s.heap a L := (I.hok a _ ha).1
  obtain ⟨es, ep, t, R⟩ := R0.full fun p hp => I.isT (hk p hp)
  rw [Vals.ref1 r]
  refine sorted_setL R (I.ok.hd hc) (by omega) hB fun s' p out c L' k g o hp hg hout pm pw => ?_
  have hfew : L'.length < 64 := by rw [pm.length_eq]; exact R.few
  have hlen : (L'.map fun q => V.ref q.1).length ≤ sizeLine := by rw [List.length_map, sizeLine_eq]; omega
  have hn : H p = none := I.hok.fresh hp
  have hv : Vals (L'.map fun q => V.ref q.1) out.toList := by rw [hout]; exact vals_of_refs L'
  have J : Inv X pins σ (upd H p (.lst (L'.map fun q => V.ref q.1))) { s with heap := s'.heap, gens := s'.gens, drawn := s'.drawn, toks := s'.toks } :=
    I.call (ch := []) (Un.laid k hp hn) (I.hok.laid k hp ⟨hlen, out.toList, c, hv, hg⟩) (by rw [g]; exact I.bare) (fun _ z => nomatch z)
  have e : s' = { s with heap := s'.heap, gens := s'.gens, drawn := s'.drawn, toks := s'.toks } := by
    cases s'
    cases s
    cases o
    rfl
  rw [e]
  exact ⟨.ref p, _, J, rfl, q L' p pm ((pm.map (·.2)).nodup_iff.mpr R.nd) pw hn⟩
/-- sorted(xs), xs a list of tuples of ints -/
def rSortLT (K : PySem.W.Frag) : List V → Hp → VK → Prop := fun vs H Q => ∃ (a : Addr) (L : List (Addr × List Int)), vs = [V.ref a] ∧ SqL K H a (L.map fun p => V.ref p.1) ∧ (∀ p ∈ L, SqT K H p.1 (p.2.map V.int)) ∧ (∀ p ∈ L, p.2 ≠ []) ∧ L.length ≤ 100000 ∧
  ∀ (L' : List (Addr × List Int)) (p : Addr), L'.Perm L → L'.Pairwise (fun q r => q.2 ≤ r.2) → H p = none → Q (.ref p) (upd H p (.lst (L'.map fun q => V.ref q.1)))
theorem kSortLT (hu : X.A.units + 64 < cLine) (hK : X.K = K := by rfl) : CallR X (.builtin "sorted") (rSortLT K) := by
  subst hK
  intro pins s σ H vs us Q I r h
  obtain ⟨a, L, rfl, hs, hk, hB, hl, q⟩ := h
  obtain ⟨its, rv, pl, hz⟩ := I.list hs
  rw [Vals.ref1 r]
  have e1 := refs_of_vals rv
  subst e1
  have eR : PySem.W.EachIs (fun v (p : Addr × List Int) => v = Value.ref p.1) (L.map fun p => Value.ref p.1) L := eachP fun _ _ => rfl
  have er : PySem.W.EachIs (fun v (p : Addr × List Int) => ∃ as, Reads s.heap v (tupI p.2) as) (L.map fun p => Value.ref p.1) L := eachP fun p hp => ⟨[], reads_P (tupI_raw I (hk p hp))⟩
  refine PySem.W.sorted_data pl.isList eR er (allAlike_tup L) (sortable_tup hB) (by rw [sizeLine_eq]; omega) (fun b _ => by have := depth_tup b.2; omega) fun out hol ho => ?_
  rw [dataLe_tup] at ho
  have eo := eachP_eq ho
  obtain ⟨sp1, sp2⟩ := sortP L
  obtain ⟨ep, he'⟩ := PyProof.Rows.sortedAll_at s.heap (L.map fun p => Value.ref p.1) out.toArray
  refine ⟨.ref _, upd H (s.heap.objs.size + 1) (.lst ((L.mergeSort fun p q => decide (p.2 ≤ q.2)).map fun q => V.ref q.1)), I.laid (t' := s.toks) (fun _ _ => PyProof.Rows.sortedAll_old) (Nat.le_succ _) ⟨?_, out, ep, ?_, by simpa using he'⟩, rfl, q _ _ sp1 sp2 (I.hok.fresh (Nat.le_succ _))⟩
  · rw [List.length_map, sp1.length_eq, sizeLine_eq]; omega
  · rw [eo]; exact vals_of_refs _
/-- set(xs), xs a list or a tuple of ints -/
def rSetI2 (K : PySem.W.Frag) (w : World) : List V → Hp → VK → Prop := fun vs H Q => ∃ (l : Addr) (ns : List Int), vs = [.ref l] ∧ (SqL K H l (ns.map V.int) ∨ SqT K H l (ns.map V.int)) ∧ ns.length ≤ 1000 ∧ ∀ p n, H p = none → n ≤ ns.length → Q (.ref p) (upd H p (SetO w p (fun j => decide (j ∈ ns)) n))
theorem kSetI (hc : X.calm = true) (hu : X.A.units + 64 < cLine) (hK : X.K = K := by rfl) (hw : X.w = w := by rfl) : CallR X (.type "set") (rSetI2 K w) := by
  subst hK hw
  intro pins s σ H vs us Q I r h
  obtain ⟨l, ns, rfl, hq, hn, q⟩ := h
  rcases hq with hq | hq
  · exact (cr_setI (K := X.K) hc rfl) pins s σ H _ _ Q I r ⟨l, ns, rfl, hq, hn, q⟩
  · rw [Vals.ref1 r]
    obtain ⟨its, rv, pl, hz⟩ := I.tuple hq
    refine call_set_tupI ns (I.ok.hd hc) (show s.heap.IsTuple l its.toArray from pl) (by simpa using RZ.intsAre_vals rv) (by unfold scanBound; omega) fun h' tk c R cl keep => ?_
    exact ⟨.ref s.heap.objs.size, _, I.laid (t' := tk) keep (Nat.le_refl _) (setO_new R), rfl, q _ c (I.hok.fresh (Nat.le_refl _)) cl⟩
theorem kSortedSetI (hc : X.calm = true) (hu : X.A.units + 64 < cLine) (hw : X.w = w := by rfl) : CallR X (.builtin "sorted") (rSortedSet w) := by subst hw; exact cr_sortedSet hc
end
/-! ### readings -/
section
variable {K : PySem.W.Frag} {H : Hp} {σ : L2.St} {te : TE} {P : Program} {w : World}
/-- a list or a tuple of ints, that stands -/
def EvS (K : PySem.W.Frag) (te : TE) (σ : L2.St) (H : Hp) (ns : List Int) : Prop := ∀ H1, Same H H1 → ∀ Q : VK, (∀ a H2, Same H1 H2 → (SqL K H2 a (ns.map V.int) ∨ SqT K H2 a (ns.map V.int)) → Q (.ref a) H2) → te σ H1 Q
theorem evS_v {i : Nat} {a : Addr} {ns : List Int} (h : σ[i]? = some (some (.ref a))) (hq : SqL K H a (ns.map V.int) ∨ SqT K H a (ns.map V.int)) : EvS K (tVar i) σ H ns := fun H1 s Q q =>
  ⟨_, h, q a H1 (Same.refl _) (hq.elim (fun z => .inl (sqL_same s z)) fun z => .inr (sqT_kp (.of s) z))⟩
/-- tuple(sorted(set(xs))) of ints -/
theorem evp_tss {ns : List Int} (h : EvS K te σ H ns) (hn : ns.length < 64) :
    EvP K (tCB (rTupS K) (tCons (tCB (rSortedSet w) (tCons (tCB (rSetI2 K w) (tCons te tNil)) tNil)) tNil)) σ H (fun r => ∃ ys : List Int, r = .tuple (ys.map .int) ∧ sortedSet ns ys) := fun H1 s Q q =>
  h H1 s _ fun a H2 s2 hq => ⟨a, ns, rfl, hq, by omega, fun p n hp hn2 => ⟨p, _, n, rfl, upd_same, by omega, fun ys p3 h1 h2 h3 hp3 => by
    have s3 := same_new (o := SetO w p (fun j => decide (j ∈ ns)) n) hp
    have s4 := same_new (o := .lst (ys.map V.int)) hp3
    refine ⟨p3, ys.map V.int, rfl, .inl ⟨.inl (.inl upd_same), fun l hl => ?_⟩⟩
    exact q _ _ _ (((s2.trans s3).trans s4).trans (same_new hl)) (.tup (.inl (.inl upd_same)) (.ints ys)) ⟨ys, rfl, h1, fun k => by rw [h2]; simp⟩⟩⟩
/-- a list of tuples of ints, that stands -/
def EvM (K : PySem.W.Frag) (te : TE) (σ : L2.St) (H : Hp) (ks : List (List Int)) : Prop := ∀ H1, Same H H1 → ∀ Q : VK, (∀ a xs H2, Same H1 H2 → SqL K H2 a xs → DqAll K H2 xs (ks.map tupI) → Q (.ref a) H2) → te σ H1 Q
theorem evM_v {i : Nat} {a : Addr} {xs : List V} {ks : List (List Int)} (h : σ[i]? = some (some (.ref a))) (hq : SqL K H a xs) (hd : DqAll K H xs (ks.map tupI)) : EvM K (tVar i) σ H ks := fun H1 s Q q =>
  ⟨_, h, q a xs H1 (Same.refl _) (sqL_same s hq) (hd.mono s)⟩
theorem EvL.M {ks : List (List Int)} (h : EvL K te σ H (ks.map tupI)) : EvM K te σ H ks := fun H1 s Q q => h H1 s _ fun p xs H2 _ s2 e d => q p xs H2 s2 (.inl (.inl e)) d
theorem refs_of : ∀ {ks : List (List Int)} {xs : List V}, DqAll K H xs (ks.map tupI) → ∃ L : List (Addr × List Int), xs = L.map (fun p => V.ref p.1) ∧ ks = L.map (·.2) ∧ ∀ p ∈ L, SqT K H p.1 (p.2.map V.int)
  | [], _, h => by cases h; exact ⟨[], rfl, rfl, fun p hp => by simp at hp⟩
  | k :: ks, _, h => by
    cases h with
    | cons h1 h2 =>
      obtain ⟨a, xs, rfl, q1, q2⟩ := h1.tupE
      rw [q2.of_ints] at q1
      obtain ⟨L, rfl, rfl, hL⟩ := refs_of h2
      refine ⟨(a, k) :: L, rfl, rfl, fun p hp => ?_⟩
      rcases List.mem_cons.mp hp with rfl | hp
      · exact q1
      · exact hL p hp
theorem of_refs : ∀ {L : List (Addr × List Int)}, (∀ p ∈ L, SqT K H p.1 (p.2.map V.int)) → DqAll K H (L.map fun p => V.ref p.1) ((L.map (·.2)).map tupI)
  | [], _ => .nil
  | p :: L, h => .cons (.tup (h p List.mem_cons_self) (.ints _)) (of_refs fun q hq => h q (List.mem_cons_of_mem _ hq))
/-- all of them, once, in order -/
def sortedSetT (ks ys : List (List Int)) : Prop := ys.Pairwise (· < ·) ∧ ∀ k, k ∈ ys ↔ k ∈ ks
theorem lt_of {a b : List Int} (h : a ≤ b) (ne : a ≠ b) : a < b := Decidable.byContradiction fun z => ne (List.le_antisymm h (List.not_lt.mp z))
/-- tuple(sorted(set(xs))) of tuples of ints -/
theorem evp_tssT {ks : List (List Int)} (h : EvM K te σ H ks) (hn : ks.length < 64) (he : ∀ k ∈ ks, k ≠ []) :
    EvP K (tCB (rTupS K) (tCons (tCB (rSortedL K P w) (tCons (tCB (rSetOfT K P w) (tCons te tNil)) tNil)) tNil)) σ H (fun r => ∃ ys : List (List Int), r = .tuple (ys.map tupI) ∧ sortedSetT ks ys) := fun H1 s Q q =>
  h H1 s _ fun a xs H2 s2 hq hd => by
    obtain ⟨L, rfl, rfl, hL⟩ := refs_of hd
    refine ⟨a, L, rfl, hq, hL, by simpa using hn, fun p L2 hp sub all => ?_⟩
    have s3 := same_new (o := SetTO P w p L2) hp
    have hL2 : ∀ x ∈ L2, SqT K (upd H2 p (SetTO P w p L2)) x.1 (x.2.map V.int) := fun x hx => sqT_kp (.of s3) (hL x (sub x hx))
    refine ⟨p, L2, rfl, upd_same, hL2, fun x hx => he x.2 (List.mem_map.mpr ⟨x, sub x hx, rfl⟩), fun L3 p3 pm nd pw hp3 => ?_⟩
    have s4 := same_new (o := .lst (L3.map fun q => V.ref q.1)) hp3
    refine ⟨p3, L3.map fun q => V.ref q.1, rfl, .inl ⟨.inl (.inl upd_same), fun l hl => ?_⟩⟩
    have s5 := same_new (o := .tup (L3.map fun q => V.ref q.1)) hl
    refine q _ _ _ (((s2.trans s3).trans s4).trans s5) (.tup (.inl (.inl upd_same)) (of_refs fun x hx => sqT_kp (.of (s4.trans s5)) (hL2 x (pm.mem_iff.mp hx)))) ⟨L3.map (·.2), rfl, ?_, fun k => ?_⟩
    · rw [List.pairwise_map]
      have nd' : L3.Pairwise (fun q r => q.2 ≠ r.2) := List.pairwise_map.mp nd
      exact (pw.and nd').imp fun h => lt_of h.1 h.2
    · constructor
      · intro hk
        obtain ⟨x, hx, rfl⟩ := List.mem_map.mp hk
        exact List.mem_map.mpr ⟨x, sub x (pm.mem_iff.mp hx), rfl⟩
      · intro hk
        obtain ⟨x, hx, rfl⟩ := List.mem_map.mp hk
        obtain ⟨y, hy, e⟩ := List.mem_map.mp (all x hx)
        exact List.mem_map.mpr ⟨y, pm.mem_iff.mpr hy, e⟩
/-- tuple(sorted(xs)) of tuples of ints -/
theorem evp_tsT {ks : List (List Int)} (h : EvM K te σ H ks) (hn : ks.length ≤ 100000) (he : ∀ k ∈ ks, k ≠ []) :
    EvP K (tCB (rTupS K) (tCons (tCB (rSortLT K) (tCons te tNil)) tNil)) σ H (fun r => ∃ ys : List (List Int), r = .tuple (ys.map tupI) ∧ ys.Perm ks ∧ ys.Pairwise (· ≤ ·)) := fun H1 s Q q =>
  h H1 s _ fun a xs H2 s2 hq hd => by
    obtain ⟨L, rfl, rfl, hL⟩ := refs_of hd
    refine ⟨a, L, rfl, hq, hL, fun x hx => he x.2 (List.mem_map.mpr ⟨x, hx, rfl⟩), by simpa using hn, fun L3 p3 pm pw hp3 => ?_⟩
    have s4 := same_new (o := .lst (L3.map fun q => V.ref q.1)) hp3
    refine ⟨p3, L3.map fun q => V.ref q.1, rfl, .inl ⟨.inl (.inl upd_same), fun l hl => ?_⟩⟩
    have s5 := same_new (o := .tup (L3.map fun q => V.ref q.1)) hl
    refine q _ _ _ ((s2.trans s4).trans s5) (.tup (.inl (.inl upd_same)) (of_refs fun x hx => sqT_kp (.of (s4.trans s5)) (hL x (pm.mem_iff.mp hx)))) ⟨L3.map (·.2), rfl, pm.map _, ?_⟩
    rw [List.pairwise_map]
    exact pw
/-! ### order of tuples of ints -/
theorem lexLt_eq : ∀ x y : List Int, HT.lexLt x y = decide (x < y)
  | [], [] => by simp [HT.lexLt]
  | [], _ :: _ => by simp [HT.lexLt]
  | _ :: _, [] => by simp [HT.lexLt]
  | x :: xs, y :: ys => by
    simp only [HT.lexLt, lexLt_eq xs ys]
    by_cases h : x = y
    · subst h; simp [List.cons_lt_cons_iff]
    · simp [h, List.cons_lt_cons_iff]
end
end KD

set_option maxRecDepth 100000
set_option maxHeartbeats 2000000
/-! Slices of tuples as data; order of tuples; more readings. -/
namespace KD
open PySem PySem.Spec PyProof.Rows L2
section
variable {X : Cx} {K : PySem.W.Frag}
theorem kSlA (hK : X.K = K := by rfl) : SlR X (rSlA K) := by subst hK; exact sl_tupA
theorem kLtT (hu : X.A.units + 64 < cLine) (hK : X.K = K := by rfl) : OpR X (compareOp .Lt) (rLtT K) := by subst hK; exact op_ltT (by omega)
end
section
variable {K : PySem.W.Frag} {H : Hp} {σ : L2.St} {te ta tb : TE} {ds : List PyData} {tl th : TO}
theorem DqAll.drop : ∀ {vs : List V} {ds : List PyData} (n : Nat), DqAll K H vs ds → DqAll K H (vs.drop n) (ds.drop n)
  | _, _, 0, h => h
  | _, _, n + 1, .nil => .nil
  | _, _, n + 1, .cons _ t => DqAll.drop n t
theorem DqAll.take : ∀ {vs : List V} {ds : List PyData} (n : Nat), DqAll K H vs ds → DqAll K H (vs.take n) (ds.take n)
  | _, _, 0, _ => .nil
  | _, _, n + 1, .nil => .nil
  | _, _, n + 1, .cons h t => .cons h (DqAll.take n t)
def cutD {α : Type} (ds : List α) (lo hi : Option Int) : List α := (ds.drop (HT.sIx ds.length 0 lo)).take (HT.sIx ds.length ds.length hi - HT.sIx ds.length 0 lo)
theorem DqAll.cut {vs : List V} {ds : List PyData} (h : DqAll K H vs ds) (lo hi : Option Int) : DqAll K H (cutV vs lo hi) (cutD ds lo hi) := by
  unfold cutV cutD
  rw [h.length]
  exact (h.drop _).take _
/-- a bound of a slice -/
def EvO (tl : TO) (σ : L2.St) (H : Hp) (o : Option Int) : Prop := ∀ H1, Same H H1 → ∀ Q : Option Int → Hp → Prop, (∀ H2, Same H1 H2 → Q o H2) → tl σ H1 Q
theorem evo_no : EvO tNoPart σ H none := fun H1 s Q q => q H1 (Same.refl _)
theorem evo_i {i : Int} (h : EvD K te σ H (.int i)) : EvO (tPart te) σ H (some i) := fun H1 s Q q => h.run s fun v H2 s2 p => by
  cases p
  exact ⟨i, rfl, q H2 s2⟩
theorem evd_slA {lo hi : Option Int} (h : EvD K te σ H (.tuple ds)) (hl : EvO tl σ H lo) (hh : EvO th σ H hi) : EvD K (tSl (rSlA K) te tl th) σ H (.tuple (cutD ds lo hi)) := fun H1 s Q q => h.run s fun v H2 s2 p2 => hl H2 (s.trans s2) _ fun H3 s3 => hh H3 ((s.trans s2).trans s3) _ fun H4 s4 => by
  have s24 := s3.trans s4
  obtain ⟨a, xs, rfl, h1, h2⟩ := (p2.mono s24).tupE
  refine ⟨a, xs, rfl, h1, fun e => ?_, fun _ p hp => ?_⟩
  · refine q _ H4 _ (s2.trans s24) (.tup h1 ?_) rfl
    have e1 : cutD ds lo hi = ds := by
      unfold cutD
      rw [← h2.length, e.1, e.2]
      simp [h2.length]
    rw [e1]; exact h2
  · exact q _ _ _ ((s2.trans s24).trans (same_new hp)) (.tup (.inl (.inl upd_same)) ((h2.cut lo hi).mono (same_new hp))) rfl
theorem cut_one {α : Type} (ds : List α) : cutD ds (some 1) none = ds.drop 1 := by
  unfold cutD
  have : HT.sIx ds.length 0 (some 1) = min 1 ds.length := HT.sIx_nat ds.length 0 1
  rw [this, HT.sIx_none]
  cases ds with
  | nil => rfl
  | cons a l =>
    have : min 1 (a :: l).length = 1 := by simp
    rw [this]
    simp
theorem evd_ltT {x y : List Int} (ha : EvD K ta σ H (tupI x)) (hb : EvD K tb σ H (tupI y)) : EvD K (tOp (rLtT K) ta tb) σ H (.bool (decide (x < y))) := evd_op ha hb fun H1 s u v p q Q k => by
  obtain ⟨a, xs, rfl, h1, h2⟩ := p.tupE
  obtain ⟨b, ys, rfl, k1, k2⟩ := q.tupE
  rw [h2.of_ints] at h1
  rw [k2.of_ints] at k1
  refine ⟨a, b, x, y, rfl, rfl, h1, k1, ?_⟩
  rw [lexLt_eq]
  exact k _ H1 (Same.refl _) (.bl _)
/-- neighbours -/
theorem next_lt {α β : Type} {r : β → β → Prop} {l : List α} {f : α → β} (h : (l.map f).Pairwise r) {i : Nat} {a b : α} (ha : l[i]? = some a) (hb : (l.drop 1)[i]? = some b) : r (f a) (f b) := by
  rw [List.pairwise_map] at h
  rw [List.getElem?_drop] at hb
  obtain ⟨h1, e1⟩ := List.getElem?_eq_some_iff.mp ha
  obtain ⟨h2, e2⟩ := List.getElem?_eq_some_iff.mp hb
  rw [← e1, ← e2]
  exact List.pairwise_iff_getElem.mp h i (1 + i) h1 h2 (by omega)
/-- all of a list of trues -/
theorem evd_allT {ds : List PyData} {n : Nat} (h : EvL K te σ H ds) (e : ds = List.replicate n (.bool true)) : EvD K (tCB (rAll K) (tCons te tNil)) σ H (.bool true) :=
  evd_is (evd_all (bs := List.replicate n true) (h.is (by rw [e, List.map_replicate]))) (by simp)
theorem map_true {α : Type} (l : List α) : (l.map fun _ => PyData.bool true) = List.replicate l.length (.bool true) := by
  induction l with
  | nil => rfl
  | cons a l ih => rw [List.map_cons, ih]; rfl
/-- a call that gives one thing -/
theorem evd_callX {Pre : List PyData → Prop} {Post : List PyData → PyData → Prop} {E : XK} {ta : TA} {ds : List PyData} {d : PyData} (h : EvA K ta σ H ds) (hp : Pre ds) (hd : ∀ r, Post ds r → r = d) : EvD K (tCall (spD K Pre Post) [] E ta) σ H d := (evp_call h hp).imp hd
end
end KD

set_option maxRecDepth 100000
set_option maxHeartbeats 2000000
/-! Comprehensions over what is told by a function; new objects out of comprehensions; ranges named; min. -/
namespace KD
open PySem PySem.Spec PyProof.Rows L2
section
variable {K : PySem.W.Frag} {H : Hp} {σ : L2.St} {te ta tb : TE} {tt : TT} {ds : List PyData} {wi : TI} {D : Ends} {u : TS} {α : Type}
/-- [e for x in ..], the source told as l.map g -/
theorem evl_mapG {i : Nat} {l : List α} {g : α → PyData} {f : α → PyData} (hs : EvI Same K wi σ H (l.map g)) (hl : l.length ≤ 100000) (hi : ∀ a ∈ l, ∀ b ∈ l, g a = g b → f a = f b)
    (h : ∀ a x H1, a ∈ l → Same H H1 → Dq K H1 x (g a) → EvD K te ((wipe σ [i]).set i (some x)) H1 (f a))
    (hw : ∀ x : V, wipe ((wipe σ [i]).set i (some x)) [i] = wipe σ [i] := by intro _; rfl) : EvL K (tLc wi (gName i) tYes te [i]) σ H (l.map f) := by
  classical
  let F : PyData → PyData := fun d => if z : ∃ a ∈ l, g a = d then f z.choose else .none
  have hF : ∀ a ∈ l, F (g a) = f a := fun a ha => by
    have z : ∃ b ∈ l, g b = g a := ⟨a, ha, rfl⟩
    show (if z : ∃ b ∈ l, g b = g a then f z.choose else .none) = f a
    rw [dif_pos z]
    exact hi _ z.choose_spec.1 _ ha z.choose_spec.2
  refine (evl_map (f := F) hs (by simpa using hl) (fun d x H1 hd s dx => ?_) hw).is ?_
  · obtain ⟨a, ha, rfl⟩ := List.mem_map.mp hd
    rw [hF a ha]
    exact h a x H1 ha s dx
  · rw [List.map_map]
    exact List.map_congr_left fun a ha => hF a ha
theorem fm_congr {β γ : Type} {f g : β → Option γ} : ∀ {l : List β}, (∀ a ∈ l, f a = g a) → l.filterMap f = l.filterMap g
  | [], _ => rfl
  | a :: l, h => by
    rw [List.filterMap_cons, List.filterMap_cons, h a List.mem_cons_self, fm_congr fun b hb => h b (List.mem_cons_of_mem _ hb)]
/-- [e for x in .. if t], the source told as l.map g -/
theorem evl_fmG {i : Nat} {l : List α} {g : α → PyData} {f : α → Option PyData} (hs : EvI Same K wi σ H (l.map g)) (hl : l.length ≤ 100000) (hi : ∀ a ∈ l, ∀ b ∈ l, g a = g b → f a = f b)
    (h : ∀ a x H1, a ∈ l → Same H H1 → Dq K H1 x (g a) → match f a with
      | none => EvB tt ((wipe σ [i]).set i (some x)) H1 false
      | some e => EvB tt ((wipe σ [i]).set i (some x)) H1 true ∧ EvD K te ((wipe σ [i]).set i (some x)) H1 e)
    (hw : ∀ x : V, wipe ((wipe σ [i]).set i (some x)) [i] = wipe σ [i] := by intro _; rfl) : EvL K (tLc wi (gName i) tt te [i]) σ H (l.filterMap f) := by
  classical
  let F : PyData → Option PyData := fun d => if z : ∃ a ∈ l, g a = d then f z.choose else none
  have hF : ∀ a ∈ l, F (g a) = f a := fun a ha => by
    have z : ∃ b ∈ l, g b = g a := ⟨a, ha, rfl⟩
    show (if z : ∃ b ∈ l, g b = g a then f z.choose else none) = f a
    rw [dif_pos z]
    exact hi _ z.choose_spec.1 _ ha z.choose_spec.2
  refine (evl_lc (f := F) hs (by simpa using hl) (fun d x H1 hd s dx => ?_) hw).is ?_
  · obtain ⟨a, ha, rfl⟩ := List.mem_map.mp hd
    rw [hF a ha]
    exact h a x H1 ha s dx
  · rw [List.filterMap_map]
    exact fm_congr fun a ha => hF a ha
/-- x = range(n) -/
theorem evq_range {i n : Nat} (h : EvD K te σ H (.int (n : Nat))) (q : ∀ a H1, H a = none → Same H H1 → H1 a = some (.rng 0 (n : Int)) → u D (σ.set i (some (.ref a))) H1) : tSeq (tAsg (tCB rRange1 (tCons te tNil)) (gName i)) u D σ H := h.use _ fun v H1 s p => by
  cases p
  exact ⟨_, rfl, fun p hp => q p _ (s.free hp) (s.trans (same_new hp)) upd_same⟩
/-- min of a new list of ints -/
theorem evd_min {ns : List Int} {m : Int} (h : EvL K te σ H (ns.map .int)) (hm : m ∈ ns) (hle : ∀ y ∈ ns, m ≤ y) : EvD K (tCB (rMin K) (tCons te tNil)) σ H (.int m) := fun H1 s Q q =>
  h H1 s _ fun p xs H2 hp s2 e2 d2 => ⟨p, ns, rfl, .inl (.inl (by rw [e2, d2.of_ints])), List.length_pos_of_mem hm, fun m' hm' hle' => by
    have : m' = m := Int.le_antisymm (hle' m hm) (hle m' hm')
    rw [this]
    exact q _ _ _ s2 (.int m) rfl⟩
/-- an object of one's own out of e: at a, with all that is its own -/
def EvN (N : Addr → List Addr → Hp → Prop) (te : TE) (σ : L2.St) (H : Hp) : Prop :=
  ∀ H1, Same H H1 → ∀ Q : VK, (∀ a own H2, Same H1 H2 → N a own H2 → a ∈ own → (∀ b ∈ own, H1 b = none) → own.Nodup → Q (.ref a) H2) → te σ H1 Q
/-- what is told of what is one's own stays while that stays -/
def Stay (N : Addr → List Addr → Hp → Prop) : Prop := ∀ a own H H', N a own H → (∀ b ∈ own, H' b = H b) → N a own H'
/-- every owned address is there -/
def There (N : Addr → List Addr → Hp → Prop) : Prop := ∀ a own H, N a own H → ∀ b ∈ own, ∃ u, H b = some u
/-- a list of such -/
def LN (N : Nat → Addr → List Addr → Hp → Prop) (n : Nat) (a : Addr) (own : List Addr) (H : Hp) : Prop :=
  ∃ L : List (Addr × List Addr), L.length = n ∧ own = a :: L.flatMap (·.2) ∧ H a = some (.lst (L.map fun p => .ref p.1)) ∧ ∀ i p, L[i]? = some p → p.1 ∈ p.2 ∧ N i p.1 p.2 H
theorem stay_LN {N : Nat → Addr → List Addr → Hp → Prop} (h : ∀ i, Stay (N i)) (n : Nat) : Stay (LN N n) := fun a own H H' ⟨L, h1, h2, h3, h4⟩ k => by
  subst h2
  refine ⟨L, h1, rfl, by rw [k a List.mem_cons_self]; exact h3, fun i p hp => ⟨(h4 i p hp).1, h i _ _ _ _ (h4 i p hp).2 fun b hb => k b (List.mem_cons_of_mem _ (List.mem_flatMap.mpr ⟨p, List.mem_of_getElem? hp, hb⟩))⟩⟩
theorem there_LN {N : Nat → Addr → List Addr → Hp → Prop} (h : ∀ i, There (N i)) (n : Nat) : There (LN N n) := fun a own H ⟨L, h1, h2, h3, h4⟩ b hb => by
  subst h2
  rcases List.mem_cons.mp hb with rfl | hb
  · exact ⟨_, h3⟩
  · obtain ⟨p, hp, hb⟩ := List.mem_flatMap.mp hb
    obtain ⟨i, hi⟩ := List.mem_iff_getElem?.mp hp
    exact h i _ _ _ (h4 i p hi).2 b hb
/-- a comprehension that makes them -/
theorem evn_lc {i : Nat} {N : Nat → Addr → List Addr → Hp → Prop} (hN : ∀ j, Stay (N j)) (hT : ∀ j, There (N j)) (hs : EvI Same K wi σ H ds) (hl : ds.length ≤ 100000)
    (h : ∀ j d x H1, ds[j]? = some d → Same H H1 → Dq K H1 x d → EvN (N j) te ((wipe σ [i]).set i (some x)) H1)
    (hw : ∀ x : V, wipe ((wipe σ [i]).set i (some x)) [i] = wipe σ [i] := by intro _; rfl) : EvN (LN N ds.length) (tLc wi (gName i) tYes te [i]) σ H := fun H1 s Q q => by
  refine hs H1 s _ fun J H2 s2 it => fun D hD => ?_
  refine ⟨fun k m H' => m = ds.length - k ∧ k ≤ ds.length ∧ Same H2 H' ∧ ∃ L : List (Addr × List Addr), L.length = k ∧ H' D = some (.lst (L.map fun p => .ref p.1)) ∧ (∀ i p, L[i]? = some p → p.1 ∈ p.2 ∧ N i p.1 p.2 H') ∧ (∀ p ∈ L, ∀ b ∈ p.2, H2 b = none ∧ b ≠ D) ∧ (L.flatMap (·.2)).Nodup,
    ⟨ds.length, by simp, Nat.zero_le _, same_new hD, [], rfl, upd_same, fun i p hp => by simp at hp, fun p hp => by simp at hp, by simp⟩, ?_⟩
  rintro k m H' ⟨rfl, hk, s', L, lL, eD, hLN, hfr, nd⟩
  by_cases hlt : k < ds.length
  · have e : ds[k]? = some ds[k] := List.getElem?_eq_getElem hlt
    refine .inr ⟨it.go k ds[k] H' e s', fun H'' => k + 1 ≤ ds.length ∧ Same H2 H'' ∧ ∃ L : List (Addr × List Addr), L.length = k + 1 ∧ H'' D = some (.lst (L.map fun p => .ref p.1)) ∧ (∀ i p, L[i]? = some p → p.1 ∈ p.2 ∧ N i p.1 p.2 H'') ∧ (∀ p ∈ L, ∀ b ∈ p.2, H2 b = none ∧ b ≠ D) ∧ (L.flatMap (·.2)).Nodup, fun H'' ⟨a, b, c⟩ => ⟨ds.length - (k + 1), by omega, rfl, a, b, c⟩, fun x H'' y => ?_⟩
    obtain ⟨s3, dx⟩ := it.yld k ds[k] x H' H'' e s' y
    have s03 : Same H H'' := ((s.trans s2).trans s').trans s3
    refine ⟨hw x, ?_⟩
    refine yesI (B := fun H3 => _) ?_
    refine h k ds[k] x H'' e s03 dx H'' (Same.refl _) _ fun a own H4 s4 nA ao fr ndo => ?_
    have eD3 : H'' D = some (.lst (L.map fun p => .ref p.1)) := s3 _ _ eD
    have eD4 : H4 D = some (.lst (L.map fun p => .ref p.1)) := s4 _ _ eD3
    have frD : ∀ b ∈ own, b ≠ D := fun b hb z => by
      have := fr b hb
      rw [z, eD3] at this
      cases this
    refine ⟨_, eD4, len100 (by rw [List.length_map]; omega), hlt, same_mut ((s'.trans s3).trans s4) hD, L ++ [(a, own)], by simp [lL], by rw [upd_same, List.map_append]; rfl, fun i p hp => ?_, fun p hp b hb => ?_, ?_⟩
    · by_cases c : i < L.length
      · rw [List.getElem?_append_left c] at hp
        obtain ⟨z1, z2⟩ := hLN i p hp
        refine ⟨z1, hN i _ _ _ _ z2 fun b hb => ?_⟩
        have hbD := (hfr p (List.mem_of_getElem? hp) b hb).2
        rw [upd_ne hbD]
        obtain ⟨u, hu⟩ := hT i _ _ _ z2 b hb
        rw [hu]
        exact s4 _ _ (s3 _ _ hu)
      · rw [List.getElem?_append_right (by omega)] at hp
        have : i - L.length = 0 := by
          by_cases c2 : i - L.length = 0
          · exact c2
          · rw [List.getElem?_eq_none (by simp; omega)] at hp
            cases hp
        rw [this] at hp
        simp at hp
        subst hp
        have hi : i = k := by omega
        subst hi
        exact ⟨ao, hN _ _ _ _ _ nA fun b hb => upd_ne (frD b hb)⟩
    · rcases List.mem_append.mp hp with hp | hp
      · exact hfr p hp b hb
      · simp at hp
        subst hp
        exact ⟨(s'.trans s3).free (fr b hb), frD b hb⟩
    · rw [List.flatMap_append, List.nodup_append]
      refine ⟨nd, by simpa using ndo, fun b hb c hc => ?_⟩
      obtain ⟨p, hp, hb⟩ := List.mem_flatMap.mp hb
      have hc : c ∈ own := by simpa using hc
      intro z
      subst z
      obtain ⟨j, hj⟩ := List.mem_iff_getElem?.mp hp
      obtain ⟨u, hu⟩ := hT j _ _ _ (hLN j p hj).2 b hb
      have := fr b hc
      rw [s3 _ _ hu] at this
      cases this
  · have hk' : k = ds.length := by omega
    subst hk'
    refine .inl ⟨it.stop H' s', ?_⟩
    refine q D (D :: L.flatMap (·.2)) H' (s2.trans s') ⟨L, lL, rfl, eD, hLN⟩ List.mem_cons_self (fun b hb => ?_) ?_
    · rcases List.mem_cons.mp hb with rfl | hb
      · exact s2.free hD
      · obtain ⟨p, hp, hb⟩ := List.mem_flatMap.mp hb
        exact s2.free (hfr p hp b hb).1
    · rw [List.nodup_cons]
      refine ⟨fun hb => ?_, nd⟩
      obtain ⟨p, hp, hb⟩ := List.mem_flatMap.mp hb
      exact (hfr p hp D hb).2 rfl
/-- a list of ints of one's own -/
def IN (ns : List Int) (a : Addr) (own : List Addr) (H : Hp) : Prop := own = [a] ∧ H a = some (.lst (ns.map V.int))
theorem stay_IN (ns : List Int) : Stay (IN ns) := fun a own H H' ⟨h1, h2⟩ k => ⟨h1, by rw [k a (by rw [h1]; simp)]; exact h2⟩
theorem there_IN (ns : List Int) : There (IN ns) := fun a own H ⟨h1, h2⟩ b hb => by
  rw [h1] at hb
  simp at hb
  subst hb
  exact ⟨_, h2⟩
/-- a new list of ints as an object of one's own -/
theorem EvL.own {ns : List Int} (h : EvL K te σ H (ns.map .int)) : EvN (IN ns) te σ H := fun H1 s Q q => h H1 s _ fun p xs H2 hp s2 e d => by
  rw [d.of_ints] at e
  exact q p [p] H2 s2 ⟨rfl, e⟩ (by simp) (fun b hb => by simp at hb; subst hb; exact hp) (by simp)
theorem flat_one' {α : Type} (x : α) : ∀ n : Nat, (List.replicate n [x]).flatten = List.replicate n x
  | 0 => rfl
  | n + 1 => by rw [List.replicate_succ, List.flatten_cons, flat_one' x n, List.replicate_succ]; rfl
/-- [x] * n -/
theorem evn_rep {n : Nat} {i : Int} (ha : EvD K ta σ H (.int i)) (hb : EvD K tb σ H (.int (n : Nat))) (hn : n ≤ 100000) : EvN (IN (List.replicate n i)) (tOp rRep (tLst (tCons ta tNil)) tb) σ H := fun H1 s Q q =>
  ha.run s fun x H2 s2 p2 => by
    cases p2
    refine ⟨by simp [sizeLine_eq], fun p hp => ?_⟩
    have s3 := same_new (o := .lst [V.int i]) hp
    refine hb.run ((s.trans s2).trans s3) fun y H4 s4 p4 => ?_
    cases p4
    refine ⟨p, n, [.int i], rfl, rfl, s4 _ _ upd_same, by omega, by omega, by rw [sizeLine_eq]; simp; omega, fun p2 hp2 => ?_⟩
    rw [Int.toNat_natCast, flat_one']
    have s14 := (s2.trans s3).trans s4
    exact q p2 [p2] _ (s14.trans (same_new hp2)) ⟨rfl, by rw [upd_same, List.map_replicate]⟩ (by simp) (fun b hb => by simp at hb; subst hb; exact s14.free hp2) (by simp)
end
end KD

set_option maxRecDepth 100000
set_option maxHeartbeats 2000000
/-! Walks told by values; grids of ints. -/
namespace KD
open PySem PySem.Spec PyProof.Rows L2
/-- J walks the values xs -/
structure ItV (Rl : Hp → Hp → Prop) (J : It) (H : Hp) (xs : List V) : Prop where
  stop : ∀ H', Rl H H' → J.stop xs.length H'
  go : ∀ i x H', xs[i]? = some x → Rl H H' → J.go i H'
  yld : ∀ i v x H' H'', xs[i]? = some v → Rl H H' → J.yld i H' x H'' → H'' = H' ∧ x = v
def EvIV (Rl : Hp → Hp → Prop) (wi : TI) (σ : L2.St) (H : Hp) (xs : List V) : Prop :=
  ∀ H1, Same H H1 → ∀ R : It → Hp → Prop, (∀ J H2, Same H1 H2 → ItV Rl J H2 xs → R J H2) → wi σ H1 R
section
variable {Rl : Hp → Hp → Prop} {K : PySem.W.Frag} {H : Hp} {σ : L2.St} {te ta tb : TE} {tt : TT} {ds : List PyData} {wi : TI} {D : Ends} {u tbd : TS} {xs : List V}
theorem evq_forG {g : TG} (hs : EvI Rl K wi σ H ds) (Pv : Hp → Nat → L2.St → Hp → Prop) (hk : ∀ H2 i σ' H', Same H H2 → i ≤ ds.length → Pv H2 i σ' H' → Rl H2 H') (h0 : ∀ H2, Same H H2 → Pv H2 0 σ H2)
    (step : ∀ H2 i d σ' H' x H'', Same H H2 → ds[i]? = some d → Pv H2 i σ' H' → Same H' H'' → Dq K H'' x d → g x σ' H'' fun σ2 H3 => tbd { D with nx := Pv H2 (i + 1), ct := Pv H2 (i + 1), bk := u D } σ2 H3)
    (fin : ∀ H2 σ' H', Same H H2 → Pv H2 ds.length σ' H' → u D σ' H') : tSeq (tFor wi g tbd) u D σ H := evs_forG (D := { D with nx := u D }) hs Pv hk h0 step fin
/-- a list that stands, by its values -/
theorem eviv_list {p : Addr} (hs : SqL K H p xs) (ha : ∀ H1, Same H H1 → ∀ Q : VK, (∀ H2, Same H1 H2 → Q (.ref p) H2) → te σ H1 Q) : EvIV (fun _ H' => SqL K H' p xs) (iList K te) σ H xs := fun H1 s R q => ha H1 s _ fun H2 s2 => by
  have h1 : SqL K H2 p xs := sqL_same (s.trans s2) hs
  refine ⟨p, rfl, ⟨xs, h1⟩, q _ H2 s2 ⟨fun H' k => ⟨xs, k, Nat.le_refl _⟩, fun i x H' e k => ⟨xs, x, k, e⟩, fun i v x H' H'' e k y => ?_⟩⟩
  obtain ⟨rfl, z⟩ := y
  exact ⟨rfl, Option.some.inj ((z xs k).symm.trans e)⟩
/-- [e for x in xs], by places -/
theorem evl_mapV {i : Nat} {f : Nat → PyData} (hs : EvIV Rl wi σ H xs) (hk : ∀ H2 H', Same H H2 → Same H2 H' → Rl H2 H') (hl : xs.length ≤ 100000)
    (h : ∀ j x H1, xs[j]? = some x → Same H H1 → EvD K te ((wipe σ [i]).set i (some x)) H1 (f j))
    (hw : ∀ x : V, wipe ((wipe σ [i]).set i (some x)) [i] = wipe σ [i] := by intro _; rfl) : EvL K (tLc wi (gName i) tYes te [i]) σ H ((List.range xs.length).map f) := fun H1 s Q q => by
  refine hs H1 s _ fun J H2 s2 it => fun D hD => ?_
  refine ⟨fun k m H' => m = xs.length - k ∧ k ≤ xs.length ∧ Same H2 H' ∧ ∃ acc, H' D = some (.lst acc) ∧ DqAll K H' acc ((List.range k).map f), ⟨xs.length, by simp, Nat.zero_le _, same_new hD, [], upd_same, by simpa using DqAll.nil⟩, ?_⟩
  rintro k m H' ⟨rfl, hk', s', acc, ea, da⟩
  have rl := hk H2 H' (s.trans s2) s'
  by_cases hlt : k < xs.length
  · have e : xs[k]? = some xs[k] := List.getElem?_eq_getElem hlt
    refine .inr ⟨it.go k xs[k] H' e rl, fun H'' => k + 1 ≤ xs.length ∧ Same H2 H'' ∧ ∃ acc, H'' D = some (.lst acc) ∧ DqAll K H'' acc ((List.range (k + 1)).map f), fun H'' ⟨a, b, c⟩ => ⟨xs.length - (k + 1), by omega, rfl, a, b, c⟩, fun x H'' y => ?_⟩
    obtain ⟨rfl, rfl⟩ := it.yld k xs[k] x H' H'' e rl y
    refine ⟨hw _, ?_⟩
    refine yesI (B := fun H3 => _) ?_
    refine (h k xs[k] H'' e ((s.trans s2).trans s')).run (Same.refl _) fun v H4 s4 p4 => ?_
    have e4 : H4 D = some (.lst acc) := s4 _ _ ea
    have len : acc.length ≤ 100000 := by
      rw [da.length, List.length_map, List.length_range]
      omega
    refine ⟨acc, e4, len100 len, hlt, same_mut (s'.trans s4) hD, _, upd_same, ?_⟩
    rw [List.range_succ, List.map_append]
    exact ((da.mono s4).kp (.updL e4)).snoc (p4.kp (.updL e4))
  · have hk2 : k = xs.length := by omega
    subst hk2
    exact .inl ⟨it.stop H' rl, q D acc H' (s2.free hD) (s2.trans s') ea da⟩
end
/-! ### a grid: k lists of n rows of ints, all different objects -/
structure Grid (g : Nat → Nat → List Int) (k n : Nat) (F : Addr) (A : Nat → Addr) (B : Nat → Nat → Addr) (H : Hp) : Prop where
  top : H F = some (.lst ((List.range k).map fun a => V.ref (A a)))
  mid : ∀ a, a < k → H (A a) = some (.lst ((List.range n).map fun p => V.ref (B a p)))
  row : ∀ a p, a < k → p < n → H (B a p) = some (.lst ((g a p).map V.int))
/-- the rows are objects apart, and new -/
structure Apart (H0 : Hp) (k n : Nat) (F : Addr) (A : Nat → Addr) (B : Nat → Nat → Addr) : Prop where
  f : H0 F = none
  a : ∀ a, a < k → H0 (A a) = none
  b : ∀ a p, a < k → p < n → H0 (B a p) = none
  bf : ∀ a p, a < k → p < n → B a p ≠ F
  ba : ∀ a p a', a < k → p < n → a' < k → B a p ≠ A a'
  bb : ∀ a p a' p', a < k → p < n → a' < k → p' < n → B a p = B a' p' → a = a' ∧ p = p'
theorem pw_flat {α β : Type} {R : β → β → Prop} {f : α → List β} : ∀ {l : List α}, (l.flatMap f).Pairwise R → ∀ {i j : Nat} {a b : α}, l[i]? = some a → l[j]? = some b → i < j → ∀ x ∈ f a, ∀ y ∈ f b, R x y
  | [], _, i, j, a, b, ha, _, _, _, _, _, _ => by simp at ha
  | c :: l, h, i, j, a, b, ha, hb, hij, x, hx, y, hy => by
    rw [List.flatMap_cons, List.pairwise_append] at h
    obtain ⟨h1, h2, h3⟩ := h
    match i, j, hij with
    | 0, j + 1, _ =>
      simp at ha hb
      subst ha
      exact h3 x hx y (List.mem_flatMap.mpr ⟨b, List.mem_of_getElem? hb, hy⟩)
    | i + 1, j + 1, hij =>
      simp at ha hb
      exact pw_flat h2 ha hb (by omega) x hx y hy
theorem nodup_flat {α β : Type} {f : α → List β} {l : List α} (h : (l.flatMap f).Nodup) {i j : Nat} {a b : α} (ha : l[i]? = some a) (hb : l[j]? = some b) (hij : i ≠ j) {x : β} (hx : x ∈ f a) (hy : x ∈ f b) : False := by
  rcases Nat.lt_or_gt_of_ne hij with c | c
  · exact pw_flat h ha hb c x hx x hy rfl
  · exact pw_flat h hb ha c x hy x hx rfl
theorem nodup_in {α β : Type} {f : α → List β} : ∀ {l : List α}, (l.flatMap f).Nodup → ∀ {i : Nat} {a : α}, l[i]? = some a → (f a).Nodup
  | [], _, i, a, ha => by simp at ha
  | c :: l, h, i, a, ha => by
    rw [List.flatMap_cons, List.nodup_append] at h
    match i with
    | 0 => simp at ha; subst ha; exact h.1
    | i + 1 => simp at ha; exact nodup_in h.2.1 ha
theorem list_by {α : Type} {l : List α} {n : Nat} (h : l.length = n) (f : Nat → α) (hf : ∀ i, i < n → l[i]? = some (f i)) : l = (List.range n).map f := by
  refine List.ext_getElem? fun i => ?_
  by_cases c : i < n
  · rw [hf i c, List.getElem?_map, List.getElem?_range c]; rfl
  · rw [List.getElem?_eq_none (by omega), List.getElem?_eq_none (by simp; omega)]
theorem grid_of {ns : Nat → Nat → List Int} {k n : Nat} {F : Addr} {own : List Addr} {H0 H : Hp} (h : LN (fun a => LN (fun p => IN (ns a p)) n) k F own H) (fr : ∀ b ∈ own, H0 b = none) (nd : own.Nodup) : ∃ A B, Grid ns k n F A B H ∧ Apart H0 k n F A B := by
  obtain ⟨L, lL, rfl, eF, hL⟩ := h
  have ex : ∀ a, ∃ M : List (Addr × List Addr), ∀ p, L[a]? = some p → M.length = n ∧ p.2 = p.1 :: M.flatMap (·.2) ∧ H p.1 = some (.lst (M.map fun p => .ref p.1)) ∧ ∀ i q, M[i]? = some q → q.2 = [q.1] ∧ H q.1 = some (.lst ((ns a i).map V.int)) := fun a => by
    cases e : L[a]? with
    | none => exact ⟨[], fun p hp => by cases hp⟩
    | some p =>
      obtain ⟨_, M, m1, m2, m3, m4⟩ := hL a p e
      exact ⟨M, fun p' hp => by cases hp; exact ⟨m1, m2, m3, fun i q hq => (m4 i q hq).2⟩⟩
  obtain ⟨M, hM⟩ := Classical.skolem.mp ex
  refine ⟨fun a => (L.getD a (0, [])).1, fun a p => ((M a).getD p (0, [])).1, ?_⟩
  have gl : ∀ a, a < k → L[a]? = some (L.getD a (0, [])) := fun a ha => by
    have : a < L.length := by omega
    rw [List.getD_eq_getElem?_getD, List.getElem?_eq_getElem this]; rfl
  have gm : ∀ a p, a < k → p < n → (M a)[p]? = some ((M a).getD p (0, [])) := fun a p ha hp => by
    have : p < (M a).length := by rw [(hM a _ (gl a ha)).1]; exact hp
    rw [List.getD_eq_getElem?_getD, List.getElem?_eq_getElem this]; rfl
  have inA : ∀ a, a < k → (L.getD a (0, [])).1 ∈ L.flatMap (·.2) := fun a ha => List.mem_flatMap.mpr ⟨_, List.mem_of_getElem? (gl a ha), by rw [(hM a _ (gl a ha)).2.1]; simp⟩
  have inB' : ∀ a p, a < k → p < n → ((M a).getD p (0, [])).1 ∈ (M a).flatMap (·.2) := fun a p ha hp => List.mem_flatMap.mpr ⟨_, List.mem_of_getElem? (gm a p ha hp), by rw [((hM a _ (gl a ha)).2.2.2 p _ (gm a p ha hp)).1]; simp⟩
  have inL : ∀ a p, a < k → p < n → ((M a).getD p (0, [])).1 ∈ (L.getD a (0, [])).2 := fun a p ha hp => by
    rw [(hM a _ (gl a ha)).2.1]
    exact List.mem_cons_of_mem _ (inB' a p ha hp)
  have inB : ∀ a p, a < k → p < n → ((M a).getD p (0, [])).1 ∈ L.flatMap (·.2) := fun a p ha hp => List.mem_flatMap.mpr ⟨_, List.mem_of_getElem? (gl a ha), inL a p ha hp⟩
  rw [List.nodup_cons] at nd
  refine ⟨⟨?_, fun a ha => ?_, fun a p ha hp => ((hM a _ (gl a ha)).2.2.2 p _ (gm a p ha hp)).2⟩, ⟨fr _ List.mem_cons_self, fun a ha => fr _ (List.mem_cons_of_mem _ (inA a ha)), fun a p ha hp => fr _ (List.mem_cons_of_mem _ (inB a p ha hp)), fun a p ha hp e => ?_, fun a p a' ha hp ha' e => ?_, fun a p a' p' ha hp ha' hp' e => ?_⟩⟩
  · rw [eF]
    congr 2
    exact list_by (by rw [List.length_map, lL]) _ fun a ha => by rw [List.getElem?_map, gl a ha]; rfl
  · obtain ⟨m1, m2, m3, m4⟩ := hM a _ (gl a ha)
    rw [m3]
    congr 2
    exact list_by (by rw [List.length_map, m1]) _ fun p hp => by rw [List.getElem?_map, gm a p ha hp]; rfl
  · exact nd.1 (e ▸ inB a p ha hp)
  · by_cases c : a = a'
    · subst c
      have z := nodup_in nd.2 (gl a ha)
      rw [(hM a _ (gl a ha)).2.1, List.nodup_cons] at z
      exact z.1 (e ▸ inB' a p ha hp)
    · refine nodup_flat nd.2 (gl a ha) (gl a' ha') c (inL a p ha hp) ?_
      rw [e, (hM a' _ (gl a' ha')).2.1]
      simp
  · by_cases c : a = a'
    · subst c
      refine ⟨rfl, ?_⟩
      by_cases c2 : p = p'
      · exact c2
      · have z := nodup_in nd.2 (gl a ha)
        rw [(hM a _ (gl a ha)).2.1, List.nodup_cons] at z
        refine (nodup_flat z.2 (gm a p ha hp) (gm a p' ha hp') c2 (x := ((M a).getD p (0, [])).1) ?_ ?_).elim
        · rw [((hM a _ (gl a ha)).2.2.2 p _ (gm a p ha hp)).1]; simp
        · rw [e, ((hM a _ (gl a ha)).2.2.2 p' _ (gm a p' ha hp')).1]; simp
    · refine (nodup_flat nd.2 (gl a ha) (gl a' ha') c (inL a p ha hp) ?_).elim
      rw [e]
      exact inL a' p' ha' hp'
section
variable {g g' : Nat → Nat → List Int} {k n : Nat} {F : Addr} {A : Nat → Addr} {B : Nat → Nat → Addr} {H0 H H' : Hp}
theorem Grid.same (h : Grid g k n F A B H) (s : Same H H') : Grid g k n F A B H' := ⟨s _ _ h.top, fun a ha => s _ _ (h.mid a ha), fun a p ha hp => s _ _ (h.row a p ha hp)⟩
theorem Grid.set (h : Grid g k n F A B H) (ap : Apart H0 k n F A B) {a p : Nat} {ns : List Int} (ha : a < k) (hp : p < n) (hg : ∀ a' p', a' < k → p' < n → g' a' p' = if a' = a ∧ p' = p then ns else g a' p') : Grid g' k n F A B (upd H (B a p) (.lst (ns.map V.int))) := by
  refine ⟨?_, fun a' ha' => ?_, fun a' p' ha' hp' => ?_⟩
  · rw [upd_ne (Ne.symm (ap.bf a p ha hp))]; exact h.top
  · rw [upd_ne (Ne.symm (ap.ba a p a' ha hp ha'))]; exact h.mid a' ha'
  · rw [hg a' p' ha' hp']
    by_cases c : a' = a ∧ p' = p
    · obtain ⟨rfl, rfl⟩ := c
      rw [if_pos ⟨rfl, rfl⟩, upd_same]
    · rw [if_neg c, upd_ne fun e => c (ap.bb a' p' a p ha' hp' ha hp e)]
      exact h.row a' p' ha' hp'
theorem Apart.mut (ap : Apart H0 k n F A B) (s : Same H0 H) {a p : Nat} {o : HO} (ha : a < k) (hp : p < n) : Same H0 (upd H (B a p) o) := same_mut s (ap.b a p ha hp)
theorem range_at {α : Type} {n i : Nat} {f : Nat → α} (h : i < n) : ((List.range n).map f)[i]? = some (f i) := by rw [List.getElem?_map, List.getElem?_range h]; rfl
/-- F[a][p] -/
theorem grid_row {K : PySem.W.Frag} {σ : L2.St} {i0 i1 i2 a p : Nat} (h : Grid g k n F A B H) (ha : a < k) (hp : p < n) (h0 : σ[i0]? = some (some (.ref F))) (h1 : σ[i1]? = some (some (.int (a : Nat)))) (h2 : σ[i2]? = some (some (.int (p : Nat)))) {Q : VK} (q : Q (.ref (B a p)) H) :
    tOp (rIxL K) (tOp (rIxL K) (tVar i0) (tVar i1)) (tVar i2) σ H Q :=
  ⟨_, h0, _, h1, F, _, _, _, rfl, rfl, .inl (.inl h.top), atI_nat (range_at ha), _, h2, A a, _, _, _, rfl, rfl, .inl (.inl (h.mid a ha)), atI_nat (range_at hp), q⟩
end
end KD

set_option maxRecDepth 100000
set_option maxHeartbeats 2000000
/-! list(zip(xs, ys)) of two lists: a new list of new pairs. -/
namespace KD
open PySem PySem.Spec PyProof.Rows L2
open PySem.Sem (wp)
theorem zip_no_len : typeLookup (.type "zip") "__len__" = pure none := by rw [typeLookup_type, builtinLookup_eq_fast]; kernel_rfl
theorem zip_no_hint : typeLookup (.type "zip") "__length_hint__" = pure none := by rw [typeLookup_type, builtinLookup_eq_fast]; kernel_rfl
section
variable {prog : Program} {w : World} {A : Around} {R : Result → Shared → Prop} {E : Value → Shared → Prop} {s : Shared} {z TI TO i1 i2 l1 l2 : Addr} {xs ys : Array Value}
/-- the zip before its i-th draw; S: the list that is made -/
def ZSt (S z TI TO i1 i2 l1 l2 : Addr) (xs ys : Array Value) (i : Nat) (h : Heap) : Prop :=
  IsPair h TI (.ref i1) (.ref i2) ∧ h.IsListIter i1 l1 i ∧ h.IsListIter i2 l2 i ∧ h.IsList l1 xs ∧ h.IsList l2 ys ∧ (∃ a b, IsPair h TO a b) ∧ (IsZip h z TI TO .none ∨ ∃ T f oT, PySem.IsZipHeld h z TI TO T f ∧ h.get? T = some oT ∧ T ≠ S ∧ T ≠ z ∧ T ≠ i1 ∧ T ≠ i2)
/-- the pairs made so far -/
def Made (xs ys : Array Value) (Ts : List Addr) (h : Heap) : Prop := ∀ (j : Nat) (T : Addr) (x y : Value), Ts[j]? = some T → xs[j]? = some x → ys[j]? = some y → IsPair h T x y
theorem zst_typeIs {S : Addr} {i : Nat} (h : ZSt S z TI TO i1 i2 l1 l2 xs ys i s.heap) : s.TypeIs (.ref z) "zip" := by
  obtain ⟨_, _, _, _, _, _, h | ⟨T, f, oT, h, _⟩⟩ := h
  · exact ⟨_, h, rfl⟩
  · exact ⟨_, h, rfl⟩
def Off (S z TI TO i1 i2 l1 l2 : Addr) : Prop := S ≠ z ∧ S ≠ TI ∧ S ≠ TO ∧ S ≠ i1 ∧ S ≠ i2 ∧ S ≠ l1 ∧ S ≠ l2
theorem ZSt.off {S : Addr} {i : Nat} {h h' : Heap} (x : ZSt S z TI TO i1 i2 l1 l2 xs ys i h) (k : ∀ b o, b ≠ S → h.get? b = some o → h'.get? b = some o) (hS : Off S z TI TO i1 i2 l1 l2) : ZSt S z TI TO i1 i2 l1 l2 xs ys i h' := by
  obtain ⟨a1, a2, a3, a4, a5, a6, a7⟩ := hS
  obtain ⟨h1, h2, h3, h4, h5, ⟨a, b, p⟩, h6⟩ := x
  refine ⟨k _ _ (Ne.symm a2) h1, h2.at fun o e => k _ o (Ne.symm a4) e, h3.at fun o e => k _ o (Ne.symm a5) e, h4.at fun o e => k _ o (Ne.symm a6) e, h5.at fun o e => k _ o (Ne.symm a7) e, ⟨a, b, k _ _ (Ne.symm a3) p⟩, ?_⟩
  rcases h6 with q | ⟨T, f, oT, q, p, r, r'⟩
  · exact .inl (k _ _ (Ne.symm a1) q)
  · exact .inr ⟨T, f, oT, k _ _ (Ne.symm a1) q, k _ _ r p, r, r'⟩
theorem zip_draw {S : Addr} {i : Nat} {x y : Value} {oS : Obj} {Q : Option Value → Shared → Prop} (D : ZipApart z TI TO i1 i2 l1 l2) (st : ZSt S z TI TO i1 i2 l1 l2 xs ys i s.heap) (hS : s.heap.get? S = some oS) (hx : xs[i]? = some x) (hy : ys[i]? = some y)
    (hQ : ∀ T h', T = s.heap.objs.size → h'.objs.size = s.heap.objs.size + 1 → (∀ b ∈ [S, z, TO, i1, i2], T ≠ b) → ZSt S z TI TO i1 i2 l1 l2 xs ys (i + 1) h' → IsPair h' T x y → (∀ c o, c ≠ z → c ≠ TO → c ≠ i1 → c ≠ i2 → s.heap.get? c = some o → h'.get? c = some o) → Q (some (.ref T)) { s with heap := h' }) :
    wpAny (model prog w) A (pyNext (.ref z)) Q E s := by
  obtain ⟨h1, h2, h3, h4, h5, ⟨a, b, p⟩, h6⟩ := st
  have lz : ∀ {b o}, s.heap.get? b = some o → s.heap.objs.size ≠ b := fun e => Ne.symm (Nat.ne_of_lt (Heap.lt_size e))
  obtain ⟨o1, e1, _⟩ := id h2
  obtain ⟨o2, e2, _⟩ := id h3
  have ez : ∃ o, s.heap.get? z = some o := by
    rcases h6 with q | ⟨T, f, oT, q, _⟩ <;> exact ⟨_, q⟩
  obtain ⟨oz, ez⟩ := ez
  have apart : ∀ b ∈ [S, z, TO, i1, i2], s.heap.objs.size ≠ b := fun b hb => by
    simp only [List.mem_cons, List.not_mem_nil, or_false] at hb
    rcases hb with rfl | rfl | rfl | rfl | rfl
    · exact lz hS
    · exact lz ez
    · exact lz p
    · exact lz e1
    · exact lz e2
  rcases h6 with q | ⟨T, f, oT, q, pT, r1, r2, r3, r4⟩
  · refine wpAny_pyNext_zip_item D q h1 p h2 h3 h4 h5 hx hy fun h' z' TO' i1' i2' T' sz k => ?_
    exact hQ _ h' rfl sz apart ⟨k _ _ D.TIz D.TITO D.TIi1 D.TIi2 h1, i1', i2', h4.at fun o e => k _ o D.l1z D.l1TO D.l1i1 D.l1i2 e, h5.at fun o e => k _ o D.l2z D.l2TO D.l2i1 D.l2i2 e, ⟨_, _, TO'⟩, .inr ⟨_, _, _, z', T', lz hS, lz ez, lz e1, lz e2⟩⟩ T' k
  · refine PySem.wpAny_pyNext_zip_item_held D q pT h1 h2 h3 h4 h5 hx hy fun h' z' i1' i2' T' sz k => ?_
    exact hQ _ h' rfl sz apart ⟨k _ _ D.TIz D.TIi1 D.TIi2 h1, i1', i2', h4.at fun o e => k _ o D.l1z D.l1i1 D.l1i2 e, h5.at fun o e => k _ o D.l2z D.l2i1 D.l2i2 e, ⟨a, b, k _ _ D.TOz D.TOi1 D.TOi2 p⟩, .inr ⟨T, true, oT, z', k _ _ r2 r3 r4 pT, r1, r2, r3, r4⟩⟩ T' fun c o c1 c2 c3 c4 e => k c o c1 c3 c4 e
theorem zip_stop {S : Addr} {i : Nat} {Q : Option Value → Shared → Prop} (hh : A.handled = none) (D : ZipApart z TI TO i1 i2 l1 l2) (st : ZSt S z TI TO i1 i2 l1 l2 xs ys i s.heap) (he : xs[i]? = none ∨ ys[i]? = none)
    (hQ : ∀ h', (∀ c o, c ≠ z → c ≠ TO → c ≠ i1 → c ≠ i2 → s.heap.get? c = some o → h'.get? c = some o) → Q none { s with heap := h' }) : wpAny (model prog w) A (pyNext (.ref z)) Q E s := by
  obtain ⟨h1, h2, h3, h4, h5, ⟨a, b, p⟩, h6⟩ := st
  rcases h6 with q | ⟨T, f, oT, q, pT, _⟩
  · exact wpAny_pyNext_zip_end hh D q h1 p h2 h3 h4 h5 he fun h' k => hQ h' k
  · exact PySem.wpAny_pyNext_zip_end_held hh D q pT h1 h2 h3 h4 h5 he fun h' k => hQ h' fun c o c1 c2 c3 c4 e => k c o c1 c3 c4 e
abbrev lstO (Ts : List Addr) (c : Nat) : Obj := { cls := .type "list", dict := none, data := .seq (Ts.map Value.ref).toArray c, slots := #[] }
theorem mapSeq_lst {Ts Ts2 : List Addr} {c : Nat} {f : Array Value → Array Value} (h : f (Ts.map Value.ref).toArray = (Ts2.map Value.ref).toArray) : ∃ c2, Obj.mapSeq f (lstO Ts c) = lstO Ts2 c2 := by
  refine ⟨if (f (Ts.map Value.ref).toArray).size == (Ts.map Value.ref).toArray.size then c else c + 1, ?_⟩
  show (⟨.type "list", none, .seq (f (Ts.map Value.ref).toArray) _, #[]⟩ : Obj) = lstO Ts2 _
  rw [h]
/-- list.extend's loop over the zip -/
theorem zip_loop (D : ZipApart z TI TO i1 i2 l1 l2) (hh : A.handled = none) (S : Addr) (hS : Off S z TI TO i1 i2 l1 l2) (res : Value) (n : Nat) (hn : n = min xs.size ys.size) (hl : n ≤ 100000) (N0 : Nat) :
    ∀ (k i : Nat) (s : Shared) (Ts : List Addr) (c : Nat), n - i = k → i ≤ n → ZSt S z TI TO i1 i2 l1 l2 xs ys i s.heap → s.heap.get? S = some (lstO Ts c) → Ts.length = i → Made xs ys Ts s.heap → (∀ T ∈ Ts, ∀ b ∈ [S, z, TO, i1, i2], T ≠ b) → N0 ≤ s.heap.objs.size → (∀ T ∈ Ts, N0 ≤ T ∧ T < s.heap.objs.size) → Ts.Pairwise (· < ·) →
    (∀ h' Ts' c', (∀ b o, (∀ c ∈ [S, z, TO, i1, i2], b ≠ c) → s.heap.get? b = some o → h'.get? b = some o) → h'.get? S = some (lstO Ts' c') → Ts'.length = n → Made xs ys Ts' h' → (∀ T ∈ Ts', N0 ≤ T) → Ts'.Pairwise (· < ·) → R (.ok (.ret res)) { s with heap := h' }) →
    codeAny (model prog w) A (.builtin "list.extend.loop" ⟨[.ref S, .ref z, res], []⟩) R s := by
  have off : ∀ {b : Addr}, (∀ c ∈ [S, z, TO, i1, i2], b ≠ c) → b ≠ S ∧ b ≠ z ∧ b ≠ TO ∧ b ≠ i1 ∧ b ≠ i2 := fun h => ⟨h _ (by simp), h _ (by simp), h _ (by simp), h _ (by simp), h _ (by simp)⟩
  intro k
  induction k with
  | zero =>
    intro i s Ts c hk hi st hSo hL hM hT hN hTN hTP hR
    have hin : i = n := by omega
    subst hin
    refine codeAny_builtin F.entry_extend_loop ?_
    rw [Around.under_plainId F.plain_extend_loop _]
    show wpAny _ A.in1 (pyNext (.ref z) >>= _) _ _ s
    refine wpAny_bind (zip_stop (by simp [hh]) D st ?_ fun h' k => ?_)
    · by_cases c : xs.size ≤ i
      · exact .inl (by simp; omega)
      · exact .inr (by simp; omega)
    · refine wpAny_pure (hR h' Ts c (fun b o hb e => ?_) (k _ _ hS.1 hS.2.2.1 hS.2.2.2.1 hS.2.2.2.2.1 hSo) hL (fun j T x y e1 e2 e3 => ?_) ?_ ?_)
      · obtain ⟨_, t1, t2, t3, t4⟩ := off hb
        exact k _ _ t1 t2 t3 t4 e
      · obtain ⟨_, t1, t2, t3, t4⟩ := off (hT T (List.mem_of_getElem? e1))
        exact k _ _ t1 t2 t3 t4 (hM j T x y e1 e2 e3)
      · exact fun T hT => (hTN T hT).1
      · exact hTP
  | succ k ih =>
    intro i s Ts c hk hi st hSo hL hM hT hN hTN hTP hR
    have hlt : i < n := by omega
    refine codeAny_builtin F.entry_extend_loop ?_
    rw [Around.under_plainId F.plain_extend_loop _]
    show wpAny _ A.in1 (pyNext (.ref z) >>= _) _ _ s
    have hx : xs[i]? = some xs[i] := by simp
    have hy : ys[i]? = some ys[i] := by simp
    refine wpAny_bind (zip_draw D st hSo hx hy fun T h' eT sz tA st' pT kp => ?_)
    have hS' : h'.get? S = some (lstO Ts c) := kp _ _ hS.1 hS.2.2.1 hS.2.2.2.1 hS.2.2.2.2.1 hSo
    show wpAny _ A.in1 (updateSeq S (·.push (.ref T)) >>= _) _ _ _
    refine wpAny_bind ?_
    have up : ∀ b o, b ≠ S → h'.get? b = some o → (h'.update S (Obj.mapSeq (·.push (Value.ref T)))).get? b = some o := fun b o hb e => (Heap.get?_update_other _ _ (Ne.symm hb)).trans e
    obtain ⟨c2, ec⟩ := mapSeq_lst (Ts := Ts) (Ts2 := Ts ++ [T]) (c := c) (f := (·.push (Value.ref T))) (by simp)
    have hS2 : (h'.update S (Obj.mapSeq (·.push (Value.ref T)))).get? S = some (lstO (Ts ++ [T]) c2) := by
      rw [Heap.get?_update_self _ hS' rfl, ec]
    refine wpAny_updateSeq (s := { s with heap := h' }) hS' rfl (wpAny_pure ⟨plainId_quiet F.plain_extend_loop _, ih (i + 1) { s with heap := h'.update S (Obj.mapSeq (·.push (Value.ref T))) } (Ts ++ [T]) c2 (by omega) hlt (st'.off up hS) hS2 (by simp [hL]) (fun j T' x y e1 e2 e3 => ?_) (fun T' hT' => ?_) ?_ ?_ ?_ fun h'' Ts' c' kp' hS'' hL' hM' => ?_⟩) (by simp [hL]; rw [sizeLine_eq]; omega) (by simp [hL]; rw [sizeLine_eq]; omega)
    · by_cases cj : j < Ts.length
      · rw [List.getElem?_append_left cj] at e1
        obtain ⟨t0, t1, t2, t3, t4⟩ := off (hT T' (List.mem_of_getElem? e1))
        exact up _ _ t0 (kp _ _ t1 t2 t3 t4 (hM j T' x y e1 e2 e3))
      · rw [List.getElem?_append_right (by omega)] at e1
        have j0 : j - Ts.length = 0 := by
          by_cases c2 : j - Ts.length = 0
          · exact c2
          · rw [List.getElem?_eq_none (by simp; omega)] at e1
            cases e1
        rw [j0] at e1
        simp at e1
        subst e1
        have ji : j = i := by omega
        subst ji
        rw [hx] at e2
        rw [hy] at e3
        cases e2; cases e3
        exact up _ _ (tA S (by simp)) pT
    · rcases List.mem_append.mp hT' with h | h
      · exact hT T' h
      · simp at h
        subst h
        exact tA
    · show N0 ≤ (h'.update S _).objs.size
      rw [Heap.size_update, sz]; omega
    · intro T' hT'
      show N0 ≤ T' ∧ T' < (h'.update S _).objs.size
      rw [Heap.size_update, sz]
      rcases List.mem_append.mp hT' with h | h
      · exact ⟨(hTN T' h).1, Nat.lt_succ_of_lt (hTN T' h).2⟩
      · simp at h
        rw [h, eT]
        exact ⟨hN, Nat.lt_succ_self _⟩
    · rw [List.pairwise_append]
      refine ⟨hTP, List.pairwise_singleton _ _, fun a ha b hb => ?_⟩
      simp at hb
      rw [hb, eT]
      exact (hTN a ha).2
    · refine hR h'' Ts' c' (fun b o hb e => kp' b o hb ?_) hS'' hL' hM'
      obtain ⟨t0, t1, t2, t3, t4⟩ := off hb
      exact up _ _ t0 (kp _ _ t1 t2 t3 t4 e)
theorem zip_extend (D : ZipApart z TI TO i1 i2 l1 l2) (hh : A.handled = none) (S : Addr) (hS : Off S z TI TO i1 i2 l1 l2) (res : Value) (c0 : Nat) (N0 : Nat) (hN : N0 ≤ s.heap.objs.size) (hl : min xs.size ys.size ≤ 100000) (st : ZSt S z TI TO i1 i2 l1 l2 xs ys 0 s.heap) (hSo : s.heap.get? S = some (lstO [] c0))
    (hR : ∀ h' Ts' c', (∀ b o, (∀ c ∈ [S, z, TO, i1, i2], b ≠ c) → s.heap.get? b = some o → h'.get? b = some o) → h'.get? S = some (lstO Ts' c') → Ts'.length = min xs.size ys.size → Made xs ys Ts' h' → (∀ T ∈ Ts', N0 ≤ T) → Ts'.Pairwise (· < ·) → R (.ok (.ret res)) { s with heap := h' }) :
    wpAny (model prog w) A.in1 (Builtin.List.listExtendWith (.ref S) (.ref z) res)
      (fun fin s' => match fin with | .done f => R (.ok f) s' | .again c' => c'.quiet = true ∧ codeAny (model prog w) A c' R s') (fun e s' => R (.error e) s') s := by
  have hSI : S ≠ z := hS.1
  unfold Builtin.List.listExtendWith
  refine wpAny_bind (wpAny_typeOf (zst_typeIs st) ?_)
  have h1 : Builtin.List.listSameRef (.ref S) (.ref z) = false := by simp [Builtin.List.listSameRef, hSI]
  have h2 : (Value.type "zip" == Value.type "list") = false := by decide
  have h3 : (Value.type "zip" == Value.type "tuple") = false := by decide
  simp only [h1, h2, h3, Bool.or_false, Bool.false_eq_true, if_false]
  refine wpAny_bind ?_
  have self : ∀ {Q : Value → Shared → Prop} {E : Value → Shared → Prop}, Q (.ref z) s → wpAny (model prog w) A.in1 (pyIter (.ref z)) Q E s := fun {Q E} q => by
    obtain ⟨_, _, _, _, _, _, zz | ⟨T, f, oT, zz, _⟩⟩ := st
    · exact wpAny_pyIter_zip zz q
    · have hTy : s.TypeIs (.ref z) "zip" := ⟨_, zz, rfl⟩
      refine wpAny_pyIter_slot hTy F.slot_zip_iter (wpAny_call_entry F.slot_zip_iter hTy F.entry_zip_iter ?_ (F.args_zip_iter_1 _))
      show wpAny _ _ (ret (.ref z)) _ _ s
      exact wpAny_pure ⟨_, rfl, "zip", _, hTy, F.slot_zip_next.lookup, q⟩
  refine self ?_
  refine wpAny_bind (wpAny_holding ?_)
  unfold Builtin.List.listLengthHint
  refine wpAny_bind (wpAny_specialOf (zst_typeIs st) zip_no_len ?_)
  show wpAny _ A.in1 (specialOf (Value.ref z) (Str.ofString "__length_hint__") >>= _) _ _ _
  refine wpAny_bind (wpAny_specialOf (zst_typeIs st) zip_no_hint ?_)
  refine wpAny_pure ?_
  show wpAny _ A.in1 (rule "list.extend.makes-room" >>= fun _ => Builtin.List.listTouch (.ref S) >>= fun _ =>
    again (.builtin "list.extend.loop" ⟨[.ref S, .ref z, res], []⟩)) _ _ _
  refine wpAny_bind (wpAny_rule ?_)
  refine wpAny_bind ?_
  show wpAny _ A.in1 (updateSeq S (·.push .none) >>= fun _ => updateSeq S (·.pop)) _ _ _
  refine wpAny_bind (wpAny_updateSeq hSo rfl ?_)
  have hS₂ := Heap.get?_update_self (Obj.mapSeq (·.push Value.none)) hSo rfl
  refine wpAny_updateSeq (hz := by seq_fits) hS₂ rfl ?_
  have hS₃ := Heap.get?_update_self (Obj.mapSeq (·.pop)) hS₂ rfl
  have e3 : ∃ c3, Obj.mapSeq (·.pop) (Obj.mapSeq (·.push Value.none) (lstO [] c0)) = lstO [] c3 := ⟨_, by simp only [Obj.mapSeq, lstO, List.map_nil]; rfl⟩
  obtain ⟨c3, e3⟩ := e3
  rw [e3] at hS₃
  have oth : ∀ b o, b ≠ S → s.heap.get? b = some o → ((s.heap.update S (Obj.mapSeq (·.push Value.none))).update S (Obj.mapSeq (·.pop))).get? b = some o :=
    fun b o hb e => (Heap.get?_update_other _ _ (Ne.symm hb)).trans ((Heap.get?_update_other _ _ (Ne.symm hb)).trans e)
  refine wpAny_pure ⟨plainId_quiet F.plain_extend_loop _, zip_loop D hh S hS res _ rfl hl N0 _ 0 { s with heap := (s.heap.update S (Obj.mapSeq (·.push Value.none))).update S (Obj.mapSeq (·.pop)) } [] c3 rfl (Nat.zero_le _) (st.off oth hS) hS₃ rfl (fun j T x y e => by simp at e) (fun T hT => by simp at hT) (by show N0 ≤ ((s.heap.update S _).update S _).objs.size; rw [Heap.size_update, Heap.size_update]; exact hN) (fun T hT => by simp at hT) List.Pairwise.nil fun h' Ts' c' k a b c d e => hR h' Ts' c' (fun x o hx e => k x o hx (oth x o (hx S (by simp)) e)) a b c d e⟩
theorem zip_init (D : ZipApart z TI TO i1 i2 l1 l2) (hh : A.handled = none) (S : Addr) (N0 : Nat) (hN : N0 ≤ s.heap.objs.size) (hS : Off S z TI TO i1 i2 l1 l2) (hl : min xs.size ys.size ≤ 100000) (st : ZSt S z TI TO i1 i2 l1 l2 xs ys 0 s.heap) (hSo : s.heap.get? S = some (lstO [] 0))
    (hR : ∀ h' Ts' c', (∀ b o, (∀ c ∈ [S, z, TO, i1, i2], b ≠ c) → s.heap.get? b = some o → h'.get? b = some o) → h'.get? S = some (lstO Ts' c') → Ts'.length = min xs.size ys.size → Made xs ys Ts' h' → (∀ T ∈ Ts', N0 ≤ T) → Ts'.Pairwise (· < ·) → R (.ok (.ret .none)) { s with heap := h' }) :
    wpAny (model prog w) A.in1 (Builtin.«list.__init__» ⟨[.ref S, .ref z], []⟩)
      (fun fin s' => match fin with | .done f => R (.ok f) s' | .again c' => c'.quiet = true ∧ codeAny (model prog w) A c' R s') (fun e s' => R (.error e) s') s := by
  show wpAny _ A.in1 (do let old ← Builtin.List.listItems (.ref S); Builtin.List.listUpdate (.ref S) (fun _ => #[]); letGo old.toList.reverse; Builtin.List.listExtendWith (.ref S) (.ref z) .none) _ _ s
  refine wpAny_bind ?_
  unfold Builtin.List.listItems
  refine wpAny_bind (wpAny_seqItems hSo rfl (wpAny_pure ?_))
  show wpAny _ A.in1 (updateSeq S (fun _ => #[]) >>= fun _ => letGo (#[] : Array Value).toList.reverse >>= fun _ => Builtin.List.listExtendWith (.ref S) (.ref z) .none) _ _ s
  refine wpAny_bind (wpAny_updateSeq hSo rfl ?_)
  have hS₂ := Heap.get?_update_self (Obj.mapSeq (fun _ => (#[] : Array Value))) hSo rfl
  have oth : ∀ b o, b ≠ S → s.heap.get? b = some o → (s.heap.update S (Obj.mapSeq (fun _ => (#[] : Array Value)))).get? b = some o :=
    fun b o hb e => (Heap.get?_update_other _ _ (Ne.symm hb)).trans e
  refine wpAny_bind (wpAny_letGo ?_)
  exact zip_extend (s := { s with heap := s.heap.update S (Obj.mapSeq (fun _ => (#[] : Array Value))) }) D hh S hS .none 0 N0 (by show N0 ≤ (s.heap.update S _).objs.size; rw [Heap.size_update]; exact hN) hl (st.off oth hS) hS₂ fun h' Ts' c' k a b c d e => hR h' Ts' c' (fun x o hx e => k x o hx (oth x o (hx S (by simp)) e)) a b c d e
/-- list(z), z a zip just made -/
theorem call_list_zip {Q : Value → Shared → Prop} (D : ZipApart z TI TO i1 i2 l1 l2) (hh : A.handled = none) (hl : min xs.size ys.size ≤ 100000) (hz : IsZip s.heap z TI TO .none) (hTI : IsPair s.heap TI (.ref i1) (.ref i2)) (hTO : ∃ a b, IsPair s.heap TO a b) (h1 : s.heap.IsListIter i1 l1 0) (h2 : s.heap.IsListIter i2 l2 0) (hl1 : s.heap.IsList l1 xs) (hl2 : s.heap.IsList l2 ys)
    (hQ : ∀ h' Ts' c', (∀ b o, (∀ c ∈ [z, TO, i1, i2], b ≠ c) → s.heap.get? b = some o → h'.get? b = some o) → h'.get? s.heap.objs.size = some (lstO Ts' c') → Ts'.length = min xs.size ys.size → Made xs ys Ts' h' → (∀ T ∈ Ts', s.heap.objs.size ≤ T) → Ts'.Pairwise (· < ·) → Q (.ref s.heap.objs.size) { s with heap := h' }) :
    wpAny (model prog w) A (call (.type "list") [.ref z]) Q E s := by
  have lz : ∀ {b o}, s.heap.get? b = some o → s.heap.objs.size ≠ b := fun e => Ne.symm (Nat.ne_of_lt (Heap.lt_size e))
  obtain ⟨a, b, pO⟩ := hTO
  obtain ⟨o1, e1, _⟩ := id h1
  obtain ⟨o2, e2, _⟩ := id h2
  obtain ⟨o3, e3, _⟩ := id hl1
  obtain ⟨o4, e4, _⟩ := id hl2
  have off : Off s.heap.objs.size z TI TO i1 i2 l1 l2 := ⟨lz hz, lz hTI, lz pO, lz e1, lz e2, lz e3, lz e4⟩
  have up : ∀ b o, s.heap.get? b = some o → (s.heap.push { cls := .type "list", data := .seq #[] }).get? b = some o := fun b o e => Heap.get?_push_of_some _ e
  have st : ZSt s.heap.objs.size z TI TO i1 i2 l1 l2 xs ys 0 (s.heap.push { cls := .type "list", data := .seq #[] }) := ⟨up _ _ hTI, h1.at fun o e => up _ o e, h2.at fun o e => up _ o e, hl1.at fun o e => up _ o e, hl2.at fun o e => up _ o e, ⟨a, b, up _ _ pO⟩, .inl (up _ _ hz)⟩
  refine callType_codes (Q₁ := fun obj s₁ => obj = .ref s.heap.objs.size ∧ s₁ = { s with heap := s.heap.push { cls := .type "list", data := .seq #[] } }) F.called_list (F.typeCall_list_1 _) F.entry_list_init
    (code_list_new _ ⟨rfl, rfl⟩) fun obj s₁ h₁ => ?_
  obtain ⟨rfl, rfl⟩ := h₁
  have hS : (s.heap.push { cls := .type "list", data := .seq #[] }).get? s.heap.objs.size = some { cls := .type "list", data := .seq #[] } := Heap.get?_push_size _ rfl
  refine ⟨⟨_, hS, rfl⟩, F.args_list_init_2 _ _, zip_init (s := { s with heap := s.heap.push { cls := .type "list", data := .seq #[] } }) D (by simp [hh]) _ s.heap.objs.size (by show s.heap.objs.size ≤ (s.heap.push _).objs.size; rw [Heap.size_push]; omega) off hl st hS fun h' Ts' c' k a b c d e => ⟨rfl, hQ h' Ts' c' (fun x o hx e => k x o (fun y hy => ?_) (up _ _ e)) a b c d e⟩⟩
  rcases List.mem_cons.mp hy with rfl | hy
  · exact Ne.symm (lz e)
  · exact hx y hy
end
/-- list(zip(xs, ys)) of two lists of one length -/
def tListZip (K : PySem.W.Frag) (ta : TA) : TE := fun σ H Q => ta σ H fun vs H1 => ∃ (a b : Addr) (xs ys : List V), vs = [.ref a, .ref b] ∧ SqL K H1 a xs ∧ SqL K H1 b ys ∧ xs.length = ys.length ∧ xs.length ≤ 1000 ∧
  ∀ (Ts : List Addr) p H2, Same H1 H2 → H1 p = none → H2 p = some (.lst (Ts.map V.ref)) → Ts.length = xs.length → (∀ (j : Nat) T x y, Ts[j]? = some T → xs[j]? = some x → ys[j]? = some y → H2 T = some (.tup [x, y])) → Q (.ref p) H2
theorem vals_reg : ∀ (Ts : List Addr), Vals (Ts.map V.ref) (Ts.map Value.ref)
  | [] => .nil
  | T :: Ts => .cons (show RelV (.ref T) (.ref T) from rfl) (vals_reg Ts)
theorem pe_listZip {X : Cx} {e e2 : Expr} {ta : TA} {p p2 q pos : Pos} (hc : X.calm = true) (hg : Gl X "list") (hm : X.mg "list" = none) (hg2 : Gl X "zip") (hm2 : X.mg "zip" = none) (ha : PA X [e, e2] ta) {K : PySem.W.Frag} (hK : X.K = K := by rfl)
    (hs : starEach [e, e2] X.env = (false, eval e X.env) :: starEach [e2] X.env := by rfl) (hpl : (backTo q (starEach [e2] X.env)).any (·.1) = false := by rfl)
    (na : starEach [.Call (.Name "zip" p2) [e, e2] [] q] X.env = (false, eval (.Call (.Name "zip" p2) [e, e2] [] q) X.env) :: starEach [] X.env := by rfl) :
    PE X (.Call (.Name "list" p) [.Call (.Name "zip" p2) [e, e2] [] q] [] pos) (tListZip K ta) := by
  subst hK
  refine ⟨fun pins s σ H Q I h => ?_⟩
  refine Call_ (ld_blt I hg hm boot_list ?_)
  refine PyProof.Rows.callWith_type1 (PyProof.Rows.args_cons ?_ na) na rfl
  refine Call_ (ld_blt I hg2 hm2 PyProof.Rows.boot_zip (PyProof.Rows.callWith_type1 (thn (ha.run q pins s σ H _ I h) fun us s1 ⟨vs, H1, I1, r1, q1⟩ => ?_) hs hpl))
  obtain ⟨a, b, xs, ys, rfl, hqx, hqy, hl, few, q1⟩ := q1
  cases r1 with
  | cons r rr =>
    cases rr with
    | cons r' rr =>
      cases rr
      cases r
      cases r'
      obtain ⟨its, rv, p1, z1⟩ := I1.list hqx
      obtain ⟨its2, rv2, p2', z2⟩ := I1.list hqy
      have n1 := rv.length
      have n2 := rv2.length
      refine call_zip_2 p1.isList p2'.isList fun h' hz hTI hTO h1 h2 hsz hk => ?_
      refine PyProof.Rows.args_nil ?_
      have hd : X.A.handled = none := I1.ok.hd hc
      refine call_list_zip (s := { s1 with heap := h' }) (PySem.W.ktu_apart s1.heap.objs.size a b p1.lt p2'.lt) hd (by simp; omega) hz hTI ⟨_, _, hTO⟩ h1 h2 (p1.isList.at fun o e => hk _ o e) (p2'.isList.at fun o e => hk _ o e) fun h2' Ts c' k2 hS hL hM hlo hpw => ?_
      have fr : ∀ c, c < s1.heap.objs.size → ∀ d ∈ [s1.heap.objs.size + 4, s1.heap.objs.size + 3, s1.heap.objs.size, s1.heap.objs.size + 1], c ≠ d := fun c hc' d hm' => by
        simp only [List.mem_cons, List.not_mem_nil, or_false] at hm'
        rcases hm' with rfl | rfl | rfl | rfl
        · exact Nat.ne_of_lt (Nat.lt_add_right _ hc')
        · exact Nat.ne_of_lt (Nat.lt_add_right _ hc')
        · exact Nat.ne_of_lt hc'
        · exact Nat.ne_of_lt (Nat.lt_add_right _ hc')
      have keep : ∀ c o, s1.heap.get? c = some o → h2'.get? c = some o := fun c o e => k2 c o (fr c (Heap.lt_size e)) (hk c o e)
      have hle : s1.heap.objs.size ≤ h'.objs.size := by rw [hsz]; exact Nat.le_add_right _ _
      have hS : h2'.get? h'.objs.size = some (lstO Ts c') := hS
      have hlo : ∀ T ∈ Ts, h'.objs.size ≤ T := hlo
      have hlen : Ts.length = xs.length := by
        rw [hL]
        simp only [List.size_toArray]
        omega
      have nd : Ts.Nodup := hpw.imp fun h => Nat.ne_of_lt h
      have SnT : h'.objs.size ∉ Ts := fun hm' => by
        obtain ⟨j, hj⟩ := List.mem_iff_getElem?.mp hm'
        have hjl := (List.getElem?_eq_some_iff.mp hj).1
        have e1 : its.toArray[j]? = some its[j] := by simp
        have e2 : its2.toArray[j]? = some its2[j] := by simp
        have := (hM j _ _ _ hj e1 e2).symm.trans hS
        exact absurd (show Value.type "tuple" = Value.type "list" from congrArg Obj.cls (Option.some.inj this)) (by decide)
      let G : Hp := fun c => if c ∈ Ts then some (.tup [xs.getD (Ts.idxOf c) .non, ys.getD (Ts.idxOf c) .non]) else none
      let H2 : Hp := fun c => if c = h'.objs.size then some (.lst (Ts.map V.ref)) else if c ∈ Ts then some (.tup [xs.getD (Ts.idxOf c) .non, ys.getD (Ts.idxOf c) .non]) else H1 c
      have old : ∀ c, c < s1.heap.objs.size → H2 c = H1 c := fun c hc' => by
        have n1 : c ≠ h'.objs.size := Nat.ne_of_lt (Nat.lt_of_lt_of_le hc' hle)
        have n2 : c ∉ Ts := fun hm' => Nat.lt_irrefl _ (Nat.lt_of_lt_of_le (Nat.lt_of_lt_of_le hc' hle) (hlo c hm'))
        show (if c = h'.objs.size then _ else _) = _
        rw [if_neg n1, if_neg n2]
      have same : Same H1 H2 := fun c u e => by rw [old c (I1.hok.lt e)]; exact e
      have atS : H2 h'.objs.size = some (.lst (Ts.map V.ref)) := if_pos rfl
      have atT : ∀ (j : Nat) T x y, Ts[j]? = some T → xs[j]? = some x → ys[j]? = some y → H2 T = some (.tup [x, y]) := fun j T x y e1 e2 e3 => by
        have hm' := List.mem_of_getElem? e1
        have ne : T ≠ h'.objs.size := fun z => SnT (z ▸ hm')
        have ix : Ts.idxOf T = j := idx_of_get nd e1
        show (if T = h'.objs.size then _ else _) = _
        rw [if_neg ne, if_pos hm', ix, List.getD_eq_getElem?_getD, List.getD_eq_getElem?_getD, e2, e3]
        rfl
      have un : Un (frs X.stack) [] H1 H2 s1.heap h2' :=
        ⟨fun b ob q _ _ _ => keep b ob q, fun b ob q _ _ _ => ⟨ob.slots, keep b ob q⟩, fun b ob q n _ => by rw [old b (Heap.lt_size q)]; exact n, fun b ob q _ => ⟨ob, keep b ob q⟩, fun _ _ q => same _ _ q, fun _ _ _ q => same _ _ q, fun _ ps q => ⟨#[], by rw [same _ _ q]; simp⟩⟩
      have hok : HOk X.prog X.w H2 h2' := fun c u e => by
        by_cases cS : c = h'.objs.size
        · subst cS
          rw [atS] at e
          cases e
          exact ⟨by rw [List.length_map, sizeLine_eq]; omega, Ts.map Value.ref, c', vals_reg Ts, hS⟩
        · by_cases cT : c ∈ Ts
          · obtain ⟨j, hj⟩ := List.mem_iff_getElem?.mp cT
            have hjl := (List.getElem?_eq_some_iff.mp hj).1
            have ex : xs[j]? = some xs[j] := List.getElem?_eq_getElem (by omega)
            have ey : ys[j]? = some ys[j] := List.getElem?_eq_getElem (by omega)
            obtain ⟨u1, hu1, ru1⟩ := rv.get ex
            obtain ⟨u2, hu2, ru2⟩ := rv2.get ey
            rw [atT j c _ _ hj ex ey] at e
            cases e
            have pr := hM j c u1 u2 hj (by simpa using hu1) (by simpa using hu2)
            exact ⟨by show 2 ≤ sizeLine; decide, [u1, u2], .cons ru1 (.cons ru2 .nil), ⟨_, pr, rfl, _, rfl⟩⟩
          · have e' : H1 c = some u := by
              have : H2 c = H1 c := by
                show (if c = h'.objs.size then _ else _) = _
                rw [if_neg cS, if_neg cT]
              rw [← this]; exact e
            exact (I1.hok c u e').stay (fun d v _ q => keep d v q) (fun d q => same _ _ q) fun d ps q => same _ _ q
      refine ⟨.ref h'.objs.size, H2, ?_, rfl, q1 Ts h'.objs.size H2 same (I1.hok.fresh hle) atS hlen atT⟩
      exact I1.call (t' := s1.toks) (g' := s1.gens) (d' := s1.drawn) un hok I1.bare (fun _ z => nomatch z)
end KD

set_option maxRecDepth 100000
set_option maxHeartbeats 2000000
/-! is_int, within, is_row, is_low_name -/
namespace Kw
open PySem PySem.Spec PyProof.Rows L2 KD

theorem hu64 {X : Cx} {k : Nat} (hr : Room k X.A) : X.A.units + 64 < cLine := by
  have := hr.un
  omega
/-- a promise by a function on data -/
def spF (K : PySem.W.Frag) (f : List PyData → Option PyData) : Sp := spD K (fun ds => (f ds).isSome = true) (fun ds r => f ds = some r)
theorem spF_len {K : PySem.W.Frag} {f : List PyData → Option PyData} {n : Nat} (hf : ∀ ds, (f ds).isSome = true → ds.length = n) {vs : List V} {H : Hp} {Q : VK} {E : XK} (h : spF K f vs H Q E) : vs.length = n := by
  obtain ⟨ds, hd, hp, _⟩ := h
  rw [hd.length]
  exact hf ds hp
theorem evd_callF {K : PySem.W.Frag} {f : List PyData → Option PyData} {E : XK} {ta : TA} {σ : L2.St} {H : Hp} {ds : List PyData} {r : PyData} (h : EvA K ta σ H ds) (hf : f ds = some r) : EvD K (tCall (spF K f) [] E ta) σ H r :=
  (evp_call h (by rw [hf]; rfl)).imp fun x hx => (Option.some.inj (hf.symm.trans hx)).symm

def notDict : PyData → Bool
  | .dict _ => false
  | _ => true
theorem kit_int : ∀ {d : PyData}, notDict d = true → kitB (tyName d) "int" = some (match d with | .int _ => true | .bool _ => true | _ => false)
  | .none, _ => (by decide +kernel : kitB "NoneType" "int" = some false)
  | .bool _, _ => (by decide +kernel : kitB "bool" "int" = some true)
  | .int _, _ => (by decide +kernel : kitB "int" "int" = some true)
  | .str _, _ => (by decide +kernel : kitB "str" "int" = some false)
  | .list _, _ => (by decide +kernel : kitB "list" "int" = some false)
  | .tuple _, _ => (by decide +kernel : kitB "tuple" "int" = some false)
  | .dict _, h => nomatch h
theorem kit_bool : ∀ {d : PyData}, notDict d = true → kitB (tyName d) "bool" = some (match d with | .bool _ => true | _ => false)
  | .none, _ => (by decide +kernel : kitB "NoneType" "bool" = some false)
  | .bool _, _ => (by decide +kernel : kitB "bool" "bool" = some true)
  | .int _, _ => (by decide +kernel : kitB "int" "bool" = some false)
  | .str _, _ => (by decide +kernel : kitB "str" "bool" = some false)
  | .list _, _ => (by decide +kernel : kitB "list" "bool" = some false)
  | .tuple _, _ => (by decide +kernel : kitB "tuple" "bool" = some false)
  | .dict _, h => nomatch h
theorem kit_str : ∀ {d : PyData}, notDict d = true → kitB (tyName d) "str" = some (match d with | .str _ => true | _ => false)
  | .none, _ => (by decide +kernel : kitB "NoneType" "str" = some false)
  | .bool _, _ => (by decide +kernel : kitB "bool" "str" = some false)
  | .int _, _ => (by decide +kernel : kitB "int" "str" = some false)
  | .str _, _ => (by decide +kernel : kitB "str" "str" = some true)
  | .list _, _ => (by decide +kernel : kitB "list" "str" = some false)
  | .tuple _, _ => (by decide +kernel : kitB "tuple" "str" = some false)
  | .dict _, h => nomatch h
theorem kit_tuple : ∀ {d : PyData}, notDict d = true → kitB (tyName d) "tuple" = some (match d with | .tuple _ => true | _ => false)
  | .none, _ => (by decide +kernel : kitB "NoneType" "tuple" = some false)
  | .bool _, _ => (by decide +kernel : kitB "bool" "tuple" = some false)
  | .int _, _ => (by decide +kernel : kitB "int" "tuple" = some false)
  | .str _, _ => (by decide +kernel : kitB "str" "tuple" = some false)
  | .list _, _ => (by decide +kernel : kitB "list" "tuple" = some false)
  | .tuple _, _ => (by decide +kernel : kitB "tuple" "tuple" = some true)
  | .dict _, h => nomatch h
theorem dq_notDict {K : PySem.W.Frag} {H : Hp} {v : V} {d : PyData} (h : Dq K H v d) : notDict d = true := by cases h <;> rfl

def isIntD : PyData → Bool
  | .int _ => true
  | _ => false
def isRowD (lo hi : Int) : PyData → Bool
  | .tuple ds => decide (lo ≤ (ds.length : Int)) && decide ((ds.length : Int) ≤ hi)
  | _ => false
def withinD (lo hi : Int) : PyData → Bool
  | .int i => decide (lo ≤ i) && decide (i ≤ hi)
  | _ => false
def f_is_int : List PyData → Option PyData
  | [d] => some (.bool (isIntD d))
  | _ => none
def f_within : List PyData → Option PyData
  | [d, .int lo, .int hi] => some (.bool (withinD lo hi d))
  | _ => none
def f_is_row : List PyData → Option PyData
  | [d, .int lo, .int hi] => some (.bool (isRowD lo hi d))
  | _ => none

section
variable {P : Program} {w : World} {K : PySem.W.Frag} {mg : Str → Option Value} {base : Heap}
theorem ok_is_int (T : Txt K mg) : FnOk P w K mg base CX0 1 T.A_is_int.f T.A_is_int.d ["thing"] (spF K f_is_int) := by
  refine T.A_is_int.F.ok sc_is_int (fun vs H Q E h => spF_len (n := 1) (fun ds hp => ?_) h) (fun cdv A outer s H vs Q E hr h => ?_)
  · unfold f_is_int at hp
    split at hp <;> first | rfl | cases hp
  · obtain ⟨ds, hd, hp, q⟩ := h
    refine ⟨_, (pss_one (ps_ret (pe_and (pe_callB call_isi (by rfl) T.n_isinstance (by decide +kernel) (pa_cons (pv 0) (pa_cons (pe_bltn (v := .ty "int") (by rfl) T.n_int (by decide +kernel) rfl) pa_nil))) (pe_one (pe_not (pe_callB call_isi (by rfl) T.n_isinstance (by decide +kernel) (pa_cons (pv 0) (pa_cons (pe_bltn (v := .ty "bool") (by rfl) T.n_bool (by decide +kernel) rfl) pa_nil)))))))), ?_⟩
    obtain ⟨d, rfl⟩ : ∃ d, ds = [d] := by
      unfold f_is_int at hp
      split at hp <;> first | exact ⟨_, rfl⟩ | cases hp
    cases hd with
    | cons h0 hn =>
      cases hn
      have nd := dq_notDict h0
      exact evs_retD (d := .bool (isIntD d)) (evd_is (evd_and (evd_isi (evd_v 0 rfl h0) (kit_int nd)) fun _ => evd_not (evd_isi (evd_v 0 rfl h0) (kit_bool nd))) (by cases d <;> rfl)) fun v H1 s p => q _ v H1 s p rfl
theorem ok_within (T : Txt K mg) : FnOk P w K mg base CX0 2 T.A_within.f T.A_within.d ["thing", "low", "high"] (spF K f_within) := by
  refine T.A_within.F.ok sc_within (fun vs H Q E h => spF_len (n := 3) (fun ds hp => ?_) h) (fun cdv A outer s H vs Q E hr h => ?_)
  · unfold f_within at hp
    split at hp <;> first | rfl | cases hp
  · obtain ⟨ds, hd, hp, q⟩ := h
    refine ⟨_, ((pss_one (ps_ret (pe_and (pe_call (ok_is_int T) (hr.mono (by decide)) (by rfl) T.A_is_int.g T.A_is_int.F.kp T.A_is_int.b .nil pass0 (pa_cons (pv 0) pa_nil)) (pe_one (pe_chain op_le op_le (pv 1) (pv 0) (pv 2))))))), ?_⟩
    obtain ⟨d, lo, hi, rfl⟩ : ∃ d lo hi, ds = [d, .int lo, .int hi] := by
      unfold f_within at hp
      split at hp <;> first | exact ⟨_, _, _, rfl⟩ | cases hp
    obtain ⟨x0, x1, x2, rfl, h0, h1, h2⟩ := hd.three
    have e1 : f_is_int [d] = some (.bool (isIntD d)) := rfl
    cases d with
    | int i => exact evs_retD (d := .bool (withinD lo hi (.int i))) (evd_is (evd_and (evd_callF (eva_cons (evd_v 0 rfl h0) eva_nil) e1) fun _ => evd_chain (evd_v 1 rfl h1) (evd_v 0 rfl h0) rd_lt (fun _ => evd_v 2 rfl h2) fun _ => rd_lt) rfl) fun v H1 s p => q _ v H1 s p rfl
    | _ => exact evs_retD (d := .bool false) (evd_and (b := false) (evd_callF (eva_cons (evd_v 0 rfl h0) eva_nil) e1) fun z => nomatch z) fun v H1 s p => q _ v H1 s p rfl
theorem ok_is_row (T : Txt K mg) : FnOk P w K mg base CX0 1 T.A_is_row.f T.A_is_row.d ["thing", "low", "high"] (spF K f_is_row) := by
  refine T.A_is_row.F.ok sc_is_row (fun vs H Q E h => spF_len (n := 3) (fun ds hp => ?_) h) (fun cdv A outer s H vs Q E hr h => ?_)
  · unfold f_is_row at hp
    split at hp <;> first | rfl | cases hp
  · obtain ⟨ds, hd, hp, q⟩ := h
    refine ⟨_, ((pss_one (ps_ret (pe_and (pe_callB (kIsi (K := K)) (by rfl) T.n_isinstance (by decide +kernel) (pa_cons (pv 0) (pa_cons (pe_bltn (v := .ty "tuple") (by rfl) T.n_tuple (by decide +kernel) rfl) pa_nil))) (pe_one (pe_chain op_le op_le (pv 1) (pe_callB (kLen (K := K)) (by rfl) T.n_len (by decide +kernel) (pa_cons (pv 0) pa_nil)) (pv 2))))))), ?_⟩
    obtain ⟨d, lo, hi, rfl⟩ : ∃ d lo hi, ds = [d, .int lo, .int hi] := by
      unfold f_is_row at hp
      split at hp <;> first | exact ⟨_, _, _, rfl⟩ | cases hp
    obtain ⟨x0, x1, x2, rfl, h0, h1, h2⟩ := hd.three
    have nd := dq_notDict h0
    cases d with
    | tuple ds => exact evs_retD (d := .bool (isRowD lo hi (.tuple ds))) (evd_is (evd_and (evd_isi (evd_v 0 rfl h0) (kit_tuple nd)) fun _ => evd_chain (evd_v 1 rfl h1) (evd_lenT (evd_v 0 rfl h0)) rd_lt (fun _ => evd_v 2 rfl h2) fun _ => rd_lt) rfl) fun v H1 s p => q _ v H1 s p rfl
    | _ => exact evs_retD (d := .bool false) (evd_and (b := false) (evd_isi (evd_v 0 rfl h0) (kit_tuple nd)) fun z => nomatch z) fun v H1 s p => q _ v H1 s p rfl
end
end Kw

set_option maxRecDepth 100000
set_option maxHeartbeats 2000000
/-! is_low_name, is_word_over, need_word, need_alike -/
namespace Kw
open PySem PySem.Spec PyProof.Rows L2 KD

def small : List Nat := (PySem.Str.ofString "abcdefghijklmnopqrstuvwxyz").cps.toList
def digits : List Nat := (PySem.Str.ofString "0123456789").cps.toList
/-- a low name, told for a text of signs -/
def lowOk (z : Str) : Bool := decide (1 ≤ z.length ∧ z.length ≤ 10) && (match z.cps.toList with
  | c :: _ => decide (c ∈ small)
  | [] => false) && z.cps.toList.all fun c => decide (c ∈ small) || decide (c ∈ digits)
def f_is_low_name : List PyData → Option PyData
  | [.str z] => if lowOk z = true then some (.bool true) else none
  | _ => none
def rInSg : R2 := fun x y H Q => ∃ (c : Nat) (z : Str), x = .str ⟨#[c]⟩ ∧ y = .str z ∧ Q (.bl (decide (c ∈ z.cps.toList))) H
def rNotInSg : R2 := fun x y H Q => ∃ (c : Nat) (z : Str), x = .str ⟨#[c]⟩ ∧ y = .str z ∧ Q (.bl (!decide (c ∈ z.cps.toList))) H
section
variable {P : Program} {w : World} {K : PySem.W.Frag} {mg : Str → Option Value} {base : Heap} {H : Hp} {σ : L2.St} {ta tb : TE}
theorem evd_inSg {c : Nat} {z : Str} (ha : EvD K ta σ H (.str ⟨#[c]⟩)) (hb : EvD K tb σ H (.str z)) : EvD K (tOp rInSg ta tb) σ H (.bool (decide (c ∈ z.cps.toList))) := evd_op ha hb fun H1 s x y p q Q k => by
  cases p; cases q
  exact ⟨c, z, rfl, rfl, k _ H1 (Same.refl H1) (.bl _)⟩
theorem evd_notInSg {c : Nat} {z : Str} (ha : EvD K ta σ H (.str ⟨#[c]⟩)) (hb : EvD K tb σ H (.str z)) : EvD K (tOp rNotInSg ta tb) σ H (.bool (!decide (c ∈ z.cps.toList))) := evd_op ha hb fun H1 s x y p q Q k => by
  cases p; cases q
  exact ⟨c, z, rfl, rfl, k _ H1 (Same.refl H1) (.bl _)⟩
theorem evd_ixS {z : Str} {i : Int} {c : Nat} (ha : EvD K ta σ H (.str z)) (hb : EvD K tb σ H (.int i)) (hl : z.length ≤ sizeLine) (h : atI z.cps.toList i = some c) : EvD K (tOp rIxS ta tb) σ H (.str ⟨#[c]⟩) := evd_op ha hb fun H1 s x y p q Q k => by
  cases p; cases q
  exact ⟨z, i, c, rfl, rfl, hl, h, k _ H1 (Same.refl H1) (.str _)⟩
theorem ok_is_low_name (T : Txt K mg) : FnOk P w K mg base CX0 1 T.A_is_low_name.f T.A_is_low_name.d ["thing"] (spF K f_is_low_name) := by
  refine T.A_is_low_name.F.ok sc_is_low_name (fun vs H Q E h => spF_len (n := 1) (fun ds hp => ?_) h) (fun cdv A outer s H vs Q E hr h => ?_)
  · unfold f_is_low_name at hp
    split at hp <;> first | rfl | cases hp
  · obtain ⟨ds, hd, hp, q⟩ := h
    refine ⟨_, ((pss_cons (ps_if (PW.pt (pw_or (pt_not (pt_val (pe_callB (kIsi (K := K)) (by rfl) T.n_isinstance (by decide +kernel) (pa_cons (pv 0) (pa_cons (pe_bltn (v := .ty "str") (by rfl) T.n_str (by decide +kernel) rfl) pa_nil))))) (pw_or (pt_not (pt_chain op_le op_le pe_int (pe_callB call_len_str (by rfl) T.n_len (by decide +kernel) (pa_cons (pv 0) pa_nil)) (pe_glob (v := .int 10) rfl T.v_LONGEST_NAME ⟨_, rfl⟩))) (pw_or1 (pt_cmpR op_notIn_sign (pe_ix ix_str (pv 0) pe_int (fun _ _ => rfl)) (pe_glob (v := .str (PySem.Str.ofString "abcdefghijklmnopqrstuvwxyz")) rfl T.v_SMALL_LETTERS ⟨_, rfl⟩) rfl))))) (pss_one (ps_ret pe_bl)) pss_nil)
  (pss_one (ps_ret (pe_callB (kAll (K := K)) (by rfl) T.n_all (by decide +kernel) (pa_cons (pe_lc (own := [("sign", 1)]) (g := gName 1) (tt := tYes) rfl sc_is_low_name.nd (pi_str (pv 0)) (blkOk_by (own := [("sign", 1)]) (N := ["thing", "sign"]) (sc := defScope s_is_low_name) (by decide +kernel)) (fun _ _ _ _ _ => (pg_name (i := 1) sc_is_low_name.nd rfl (.inl rfl))) (fun _ _ _ _ _ => pts_nil) (fun _ _ _ _ _ => (pe_or (pe_cmpR op_in_sign (pv 1) (pe_glob (v := .str (PySem.Str.ofString "abcdefghijklmnopqrstuvwxyz")) rfl T.v_SMALL_LETTERS ⟨_, rfl⟩) rfl) (pe_one (pe_cmpR op_in_sign (pv 1) (pe_glob (v := .str (PySem.Str.ofString "0123456789")) rfl T.v_DIGITS ⟨_, rfl⟩) rfl))))) pa_nil)))))), ?_⟩
    obtain ⟨z, rfl, hz⟩ : ∃ z, ds = [.str z] ∧ lowOk z = true := by
      unfold f_is_low_name at hp
      split at hp
      · rename_i z
        by_cases c : lowOk z = true
        · exact ⟨z, rfl, c⟩
        · rw [if_neg c] at hp; cases hp
      · cases hp
    obtain ⟨x0, rfl, h0⟩ := hd.single
    have hz' := hz
    unfold lowOk at hz'
    simp only [Bool.and_eq_true, decide_eq_true_eq] at hz'
    obtain ⟨⟨⟨l1, l2⟩, hc⟩, hall⟩ := hz'
    obtain ⟨c, cs, ec, hc⟩ : ∃ c cs, z.cps.toList = c :: cs ∧ c ∈ small := by
      cases e : z.cps.toList with
      | nil => rw [e] at hc; cases hc
      | cons c cs => rw [e] at hc; exact ⟨c, cs, rfl, of_decide_eq_true hc⟩
    have hzl : z.cps.size = z.length := rfl
    have hl : z.length ≤ sizeLine := Nat.le_trans l2 (by decide)
    have v0 : EvD K (tVar 0) (L2.start ["thing", "sign"] [x0]) H (.str z) := evd_v 0 rfl h0
    refine evs_if (b := false) (evb_is (evb_or (evb_not (evb_B (evd_isi v0 (kit_str rfl)))) fun _ => evb_or (evb_not (evb_test (evd_chain evd_int (evd_lenS v0 hl) rd_lt (fun _ => evd_int) fun _ => rd_lt))) fun _ => evb_test (evd_notInSg (evd_ixS v0 evd_int hl (c := c) (by rw [ec]; exact atI_nat (j := 0) rfl)) evd_str)) ?_) (fun z => nomatch z) fun _ H1 s1 => ?_
    · have a1 : decide ((1 : Int) ≤ (z.length : Nat)) = true := decide_eq_true (by omega)
      have a2 : decide (((z.length : Nat) : Int) ≤ 10) = true := decide_eq_true (by omega)
      have a3 : decide (c ∈ (PySem.Str.ofString "abcdefghijklmnopqrstuvwxyz").cps.toList) = true := decide_eq_true hc
      rw [a1, a2, a3]
      rfl
    · refine evs_retD (d := .bool true) (evd_is (evd_all (bs := z.cps.toList.map fun _ => true) ((evl_map (f := fun _ => .bool true) ((evi_str (v0.mono s1)).same) (by simp [KD.signs]; omega) fun d x H2 hd s2 dx => ?_).is ?_)) ?_) fun v H2 s2 p2 => q _ v H2 (s1.trans s2) p2 (show f_is_low_name [.str z] = _ from if_pos hz)
      · obtain ⟨c, hc, rfl⟩ := List.mem_map.mp hd
        have hc' := List.all_eq_true.mp hall c hc
        refine evd_is (evd_or (evd_inSg (evd_v 1 rfl dx) evd_str) fun _ => evd_inSg (evd_v 1 rfl dx) evd_str) ?_
        show PyData.bool (decide (c ∈ small) || decide (c ∈ digits)) = _
        rw [hc']
      · simp [KD.signs]
      · simp
end
end Kw

set_option maxRecDepth 100000
set_option maxHeartbeats 2000000
/-! equal data; letters; is_word_over, need_word, need_alike -/
namespace Kw
open PySem PySem.Spec PyProof.Rows L2 KD

mutual
def noB : PyData → Bool
  | .bool _ => false
  | .dict _ => false
  | .list ds => noBAll ds
  | .tuple ds => noBAll ds
  | _ => true
def noBAll : List PyData → Bool
  | [] => true
  | d :: ds => noB d && noBAll ds
end
mutual
theorem eqv_iff : ∀ (d e : PyData), noB d = true → noB e = true → (PyData.eqv d e = true ↔ d = e)
  | .none, e, _, h => by cases e <;> simp [PyData.eqv]
  | .bool _, _, h, _ => by simp [noB] at h
  | .dict _, _, h, _ => by simp [noB] at h
  | .int i, e, _, h => by cases e <;> first | (simp [noB] at h; done) | simp [PyData.eqv]
  | .str x, e, _, h => by cases e <;> simp [PyData.eqv]
  | .list xs, .list ys, h1, h2 => by
    simp only [PyData.eqv, PyData.list.injEq]
    exact eqvAll_iff xs ys (by simpa [noB] using h1) (by simpa [noB] using h2)
  | .tuple xs, .tuple ys, h1, h2 => by
    simp only [PyData.eqv, PyData.tuple.injEq]
    exact eqvAll_iff xs ys (by simpa [noB] using h1) (by simpa [noB] using h2)
  | .list xs, .none, _, _ => by simp [PyData.eqv]
  | .list xs, .bool _, _, _ => by simp [PyData.eqv]
  | .list xs, .int _, _, _ => by simp [PyData.eqv]
  | .list xs, .str _, _, _ => by simp [PyData.eqv]
  | .list xs, .tuple _, _, _ => by simp [PyData.eqv]
  | .list xs, .dict _, _, _ => by simp [PyData.eqv]
  | .tuple xs, .none, _, _ => by simp [PyData.eqv]
  | .tuple xs, .bool _, _, _ => by simp [PyData.eqv]
  | .tuple xs, .int _, _, _ => by simp [PyData.eqv]
  | .tuple xs, .str _, _, _ => by simp [PyData.eqv]
  | .tuple xs, .list _, _, _ => by simp [PyData.eqv]
  | .tuple xs, .dict _, _, _ => by simp [PyData.eqv]
theorem eqvAll_iff : ∀ (xs ys : List PyData), noBAll xs = true → noBAll ys = true → (PyData.eqvAll xs ys = true ↔ xs = ys)
  | [], [], _, _ => by simp [PyData.eqvAll]
  | [], _ :: _, _, _ => by simp [PyData.eqvAll]
  | _ :: _, [], _, _ => by simp [PyData.eqvAll]
  | x :: xs, y :: ys, h1, h2 => by
    simp only [noBAll, Bool.and_eq_true] at h1 h2
    simp only [PyData.eqvAll, Bool.and_eq_true, List.cons.injEq]
    rw [eqv_iff x y h1.1 h2.1, eqvAll_iff xs ys h1.2 h2.2]
end
/-- data that can be compared: no lists, no bools, nested to n at most -/
structure Good (n : Nat) (d : PyData) : Prop where
  flat : flatD d = true
  nob : noB d = true
  lay : d.canLay0 = true
  dep : d.depth ≤ n
theorem flatAll_of : ∀ {ds : List PyData}, (∀ d ∈ ds, flatD d = true) → flatAll ds = true
  | [], _ => rfl
  | d :: ds, h => by
    simp only [flatAll, Bool.and_eq_true]
    exact ⟨h d List.mem_cons_self, flatAll_of fun e he => h e (List.mem_cons_of_mem _ he)⟩
theorem noBAll_of : ∀ {ds : List PyData}, (∀ d ∈ ds, noB d = true) → noBAll ds = true
  | [], _ => rfl
  | d :: ds, h => by
    simp only [noBAll, Bool.and_eq_true]
    exact ⟨h d List.mem_cons_self, noBAll_of fun e he => h e (List.mem_cons_of_mem _ he)⟩
theorem layAll_of : ∀ {ds : List PyData}, (∀ d ∈ ds, d.canLay0 = true) → PyData.canLayAll0 ds = true
  | [], _ => by simp [PyData.canLayAll0]
  | d :: ds, h => by
    simp only [PyData.canLayAll0, Bool.and_eq_true]
    exact ⟨h d List.mem_cons_self, layAll_of fun e he => h e (List.mem_cons_of_mem _ he)⟩
theorem depAll_of {n : Nat} : ∀ {ds : List PyData}, (∀ d ∈ ds, d.depth ≤ n) → PyData.depthAll ds ≤ n
  | [], _ => by simp [PyData.depthAll]
  | d :: ds, h => by
    have h1 := h d List.mem_cons_self
    have h2 := depAll_of (ds := ds) fun e he => h e (List.mem_cons_of_mem _ he)
    simp only [PyData.depthAll]
    omega
theorem Good.tup {n : Nat} {ds : List PyData} (h : ∀ d ∈ ds, Good n d) : Good (n + 1) (.tuple ds) := by
  refine ⟨?_, ?_, ?_, ?_⟩
  · simp only [flatD]; exact flatAll_of fun d hd => (h d hd).flat
  · simp only [noB]; exact noBAll_of fun d hd => (h d hd).nob
  · simp only [PyData.canLay0]; exact layAll_of fun d hd => (h d hd).lay
  · have := depAll_of fun d hd => (h d hd).dep
    simp only [PyData.depth]; omega
theorem Good.mono {n m : Nat} {d : PyData} (h : Good n d) (l : n ≤ m) : Good m d := ⟨h.flat, h.nob, h.lay, Nat.le_trans h.dep l⟩
theorem good_none : Good 0 .none := ⟨rfl, rfl, by simp [PyData.canLay0], by simp [PyData.depth]⟩
theorem good_int (i : Int) : Good 0 (.int i) := ⟨rfl, rfl, by simp [PyData.canLay0], by simp [PyData.depth]⟩
theorem good_str {z : Str} (h : PyData.canLay0 (.str z) = true) : Good 0 (.str z) := ⟨rfl, rfl, h, by simp [PyData.depth]⟩
theorem Good.shaped {n : Nat} {d : PyData} (h : Good n d) (l : n ≤ 64) : SeqAt.shaped d = true := by
  show (d.canLay0 && decide (d.depth ≤ 64)) = true
  rw [h.lay, Bool.true_and]
  exact decide_eq_true (Nat.le_trans h.dep l)
section
variable {K : PySem.W.Frag} {H : Hp} {σ : L2.St} {ta tb : TE} {d e : PyData} {n m : Nat}
theorem evd_eqG {b : Bool} (ha : EvD K ta σ H d) (hb : EvD K tb σ H e) (g1 : Good n d) (g2 : Good m e) (l1 : n ≤ 64) (l2 : m ≤ 64) (hbv : (b = true ↔ d = e)) : EvD K (tOp (rEqD K) ta tb) σ H (.bool b) :=
  evd_is (evd_eqD ha hb g1.flat g2.flat (g1.shaped l1) (g2.shaped l2)) (by
    congr 1
    rw [Bool.eq_iff_iff, hbv]
    exact eqv_iff d e g1.nob g2.nob)
theorem evd_neG {b : Bool} (ha : EvD K ta σ H d) (hb : EvD K tb σ H e) (g1 : Good n d) (g2 : Good m e) (l1 : n ≤ 64) (l2 : m ≤ 64) (hbv : (b = true ↔ d = e)) : EvD K (tOp (rNeD K) ta tb) σ H (.bool (!b)) :=
  evd_is (evd_neD ha hb g1.flat g2.flat (g1.shaped l1) (g2.shaped l2)) (by
    congr 2
    rw [Bool.eq_iff_iff, hbv]
    exact eqv_iff d e g1.nob g2.nob)
end

/-! ### letters -/
structure LetOk (lt : List Str) : Prop where
  pos : 1 ≤ lt.length
  few : lt.length ≤ 6
  low : ∀ z ∈ lt, lowOk z = true
  nd : lt.Nodup
  lay : ∀ z ∈ lt, PyData.canLay0 (.str z) = true
def letD (lt : List Str) : PyData := .tuple (lt.map .str)
theorem good_let {lt : List Str} (h : LetOk lt) : Good 1 (letD lt) := Good.tup fun d hd => by
  obtain ⟨z, hz, rfl⟩ := List.mem_map.mp hd
  exact good_str (h.lay z hz)
theorem letD_inj {a b : List Str} (h : letD a = letD b) : a = b := by
  have h : a.map PyData.str = b.map PyData.str := by simpa [letD] using h
  exact (List.map_inj_right fun x y e => by injection e).mp h
def wordD (n : Nat) : PyData → Bool
  | .tuple ws => decide (ws.length ≤ 1000) && ws.all (withinD 0 ((n : Int) - 1))
  | _ => false

section
variable {P : Program} {w : World} {K : PySem.W.Frag} {mg : Str → Option Value} {base : Heap}
def spLetters (K : PySem.W.Frag) : Sp := spD K (fun ds => ∃ lt, ds = [letD lt] ∧ LetOk lt) (fun _ r => r = .bool true)
theorem ok_are_letters (T : Txt K mg) : FnOk P w K mg base CX0 2 T.A_are_letters.f T.A_are_letters.d ["thing"] (spLetters K) := by
  refine T.A_are_letters.F.ok sc_are_letters (fun vs H Q E h => ?_) (fun cdv A outer s H vs Q E hr h => ?_)
  · obtain ⟨ds, hd, ⟨lt, rfl, _⟩, _⟩ := h
    exact hd.length
  · obtain ⟨ds, hd, ⟨lt, rfl, ok⟩, q⟩ := h
    refine ⟨_, ((pss_cons (ps_if (PW.pt (pw_or (pt_not (pt_val (pe_call (ok_is_row T) (hr.mono (by decide)) (by rfl) T.A_is_row.g T.A_is_row.F.kp T.A_is_row.b .nil pass0 (pa_cons (pv 0) (pa_cons pe_int (pa_cons (pe_glob (v := .int 6) rfl T.v_MOST_LETTERS ⟨_, rfl⟩) pa_nil)))))) (pw_or1 (pt_not (pt_val (pe_callB (kAll (K := K)) (by rfl) T.n_all (by decide +kernel) (pa_cons (pe_lc (own := [("name", 1)]) (g := gName 1) (tt := tYes) rfl sc_are_letters.nd (kiTup (K := K) (pv 0)) (blkOk_by (own := [("name", 1)]) (N := ["thing", "name"]) (sc := defScope s_are_letters) (by decide +kernel)) (fun _ _ _ _ _ => (pg_name (i := 1) sc_are_letters.nd rfl (.inl rfl))) (fun _ _ _ _ _ => pts_nil) (fun _ _ _ _ _ => (pe_call (ok_is_low_name T) (hr.mono (by decide)) (by rfl) T.A_is_low_name.g T.A_is_low_name.F.kp T.A_is_low_name.b .nil pass0 (pa_cons (pv 1) pa_nil)))) pa_nil))))))) (pss_one (ps_ret pe_bl)) pss_nil)
  (pss_one (ps_ret (pe_cmpR op_eq (pe_lenSetS rfl (by rfl) T.n_len (by rfl) T.n_set (pv 0)) (pe_callB (kLen (K := K)) (by rfl) T.n_len (by decide +kernel) (pa_cons (pv 0) pa_nil)) (nomark _)))))), ?_⟩
    obtain ⟨x0, rfl, h0⟩ := hd.single
    have v0 : EvD K (tVar 0) (L2.start ["thing", "name"] [x0]) H (letD lt) := evd_v 0 rfl h0
    have hrow : isRowD 1 6 (letD lt) = true := by
      show (decide ((1 : Int) ≤ ((lt.map PyData.str).length : Nat)) && decide ((((lt.map PyData.str).length : Nat) : Int) ≤ 6)) = true
      rw [List.length_map, decide_eq_true (by have := ok.pos; omega), decide_eq_true (by have := ok.few; omega)]
      rfl
    refine evs_if (b := false) (evb_is (evb_or (evb_not (evb_B (evd_callF (eva_cons v0 (eva_cons evd_int (eva_cons evd_int eva_nil))) rfl))) fun _ => evb_not (evb_B (evd_all (bs := lt.map fun _ => true) ((evl_map (f := fun _ => .bool true) (evi_tup v0).same (by simp; have := ok.few; omega) fun d x H2 hd s2 dx => ?_).is ?_)))) ?_) (fun z => nomatch z) fun _ H1 s1 => ?_
    · obtain ⟨z, hz, rfl⟩ := List.mem_map.mp hd
      exact evd_callF (eva_cons (evd_v 1 rfl dx) eva_nil) (show f_is_low_name [.str z] = _ from if_pos (ok.low z hz))
    · rw [List.map_map, List.map_map]; rfl
    · rw [hrow]; simp
    · obtain ⟨a, xs, rfl, k1, k2⟩ := h0.tupE
      have e := k2.of_strs
      subst e
      have s1' := sqT_kp (.of s1) k1
      have l1 : EvD K (tLenSetS K (tVar 0)) (L2.start ["thing", "name"] [V.ref a]) H1 (.int lt.length) := fun H2 s2 Q q => ⟨_, rfl, a, lt, rfl, sqT_kp (.of s2) s1', ok.nd, by have := ok.few; omega, q _ H2 _ (Same.refl H2) (.int _) rfl⟩
      refine evs_retD (d := .bool true) (evd_is (evd_eq l1 (evd_lenT (v0.mono s1)) (show eqS (.int lt.length) (.int ((lt.map PyData.str).length : Nat)) = some true by rw [List.length_map]; simp [eqS])) rfl) fun v H2 s2 p2 => q _ v H2 (s1.trans s2) p2 rfl
end
end Kw

set_option maxRecDepth 100000
set_option maxHeartbeats 2000000
/-! machines as data; is_ascending, are_indexes, is_move, is_any_machine, is_machine, need_.. -/
namespace Kw
open PySem PySem.Spec PyProof.Rows L2 KD Mx
def zs (l : List Nat) : List Int := l.map fun n : Nat => (n : Int)
def moveL (m : Mx.Move) : List Int := [(m.1 : Int), (m.2.1 : Int), m.2.2.1, (m.2.2.2 : Int)]
def intsD (l : List Int) : PyData := .tuple (l.map .int)
def rowsT (l : List (List Int)) : PyData := .tuple (l.map tupI)
def machD (lt : List Str) (M : Mach) : PyData := .tuple [letD lt, .int (M.n : Nat), intsD (zs M.st), intsD (zs M.en), rowsT (M.mv.map moveL)]
structure MOk (lt : List Str) (M : Mach) : Prop where
  lets : LetOk lt
  ok : M.Ok lt.length
  n12 : M.n ≤ 12
  st : (zs M.st).Pairwise (· < ·)
  en : (zs M.en).Pairwise (· < ·)
  mv : (M.mv.map moveL).Pairwise (· < ·)
  sfew : M.st.length ≤ 100
  efew : M.en.length ≤ 100
  few : M.mv.length ≤ 5000
theorem zs_inj {a b : List Nat} (h : zs a = zs b) : a = b := (List.map_inj_right (f := fun n : Nat => (n : Int)) fun x y e => Int.ofNat.inj e).mp h
theorem ints_inj {a b : List Int} (h : a.map PyData.int = b.map PyData.int) : a = b := (List.map_inj_right fun x y e => by injection e).mp h
theorem tupI_inj {a b : List Int} (h : tupI a = tupI b) : a = b := by
  unfold tupI at h
  injection h with h
  exact ints_inj h
theorem moveL_inj {a b : Mx.Move} (h : moveL a = moveL b) : a = b := by
  obtain ⟨a1, a2, a3, a4⟩ := a
  obtain ⟨b1, b2, b3, b4⟩ := b
  unfold moveL at h
  simp only [List.cons.injEq, and_true, Int.natCast_inj] at h
  obtain ⟨rfl, rfl, rfl, rfl⟩ := h
  rfl
theorem machD_inj {lt lu : List Str} {M N : Mach} (h : machD lt M = machD lu N) : lt = lu ∧ M = N := by
  unfold machD at h
  simp only [PyData.tuple.injEq, List.cons.injEq, and_true, PyData.int.injEq, intsD, rowsT] at h
  obtain ⟨h1, h2, h3, h4, h5⟩ := h
  refine ⟨letD_inj h1, ?_⟩
  have e3 := zs_inj (ints_inj h3)
  have e4 := zs_inj (ints_inj h4)
  have e5 : M.mv = N.mv := (List.map_inj_right fun x y e => moveL_inj e).mp ((List.map_inj_right fun x y e => tupI_inj e).mp h5)
  obtain ⟨a, b, c, d⟩ := M
  obtain ⟨a', b', c', d'⟩ := N
  simp only [Mach.mk.injEq]
  exact ⟨Int.ofNat.inj h2, e3, e4, e5⟩
theorem f_within_ok {lo hi i : Int} (h1 : lo ≤ i) (h2 : i ≤ hi) : f_within [.int i, .int lo, .int hi] = some (.bool true) := by
  show some (PyData.bool (decide (lo ≤ i) && decide (i ≤ hi))) = _
  rw [decide_eq_true h1, decide_eq_true h2]; rfl
theorem f_row_ok {ds : List PyData} {lo hi : Int} (h1 : lo ≤ ds.length) (h2 : (ds.length : Int) ≤ hi) : f_is_row [.tuple ds, .int lo, .int hi] = some (.bool true) := by
  show some (PyData.bool (decide (lo ≤ (ds.length : Int)) && decide ((ds.length : Int) ≤ hi))) = _
  rw [decide_eq_true h1, decide_eq_true h2]; rfl
section
variable {P : Program} {w : World} {K : PySem.W.Frag} {mg : Str → Option Value} {base : Heap}
def spAscI (K : PySem.W.Frag) : Sp := spD K (fun ds => ∃ ns : List Int, ds = [intsD ns] ∧ ns.Pairwise (· < ·) ∧ ns.length ≤ 5000) (fun _ r => r = .bool true)
def spAscT (K : PySem.W.Frag) : Sp := spD K (fun ds => ∃ ks : List (List Int), ds = [rowsT ks] ∧ ks.Pairwise (· < ·) ∧ ks.length ≤ 5000) (fun _ r => r = .bool true)
theorem zip_next {α : Type} {l : List α} {f : α → PyData} {d : PyData} (hd : d ∈ zipD (l.map f) ((l.map f).drop 1)) : ∃ (i : Nat) (a b : α), l[i]? = some a ∧ (l.drop 1)[i]? = some b ∧ d = .tuple [f a, f b] := by
  obtain ⟨i, hi⟩ := List.mem_iff_getElem?.mp hd
  obtain ⟨x, y, e1, e2, rfl⟩ := zipD_get hi
  rw [← List.map_drop] at e2
  rw [List.getElem?_map] at e1 e2
  cases h1 : l[i]? with
  | none => rw [h1] at e1; cases e1
  | some a =>
    cases h2 : (l.drop 1)[i]? with
    | none => rw [h2] at e2; cases e2
    | some b =>
      rw [h1] at e1
      rw [h2] at e2
      cases e1; cases e2
      exact ⟨i, a, b, h1, h2, rfl⟩
theorem ok_is_ascendingI (T : Txt K mg) : FnOk P w K mg base CX0 1 T.A_is_ascending.f T.A_is_ascending.d ["thing"] (spAscI K) := by
  refine T.A_is_ascending.F.ok sc_is_ascending (fun vs H Q E h => ?_) (fun cdv A outer s H vs Q E hr h => ?_)
  · obtain ⟨ds, hd, ⟨_, rfl, _⟩, _⟩ := h; exact hd.length
  · obtain ⟨ds, hd, ⟨ns, rfl, pw, hl⟩, q⟩ := h
    refine ⟨_, ((pss_one (ps_ret (pe_callB (kAll (K := K)) (by rfl) T.n_all (by decide +kernel) (pa_cons (pe_lc (own := [("one", 1), ("other", 2)]) (g := gTup K 2 (gCons (gName 1) (gCons (gName 2) (gNil)))) (tt := tYes) rfl sc_is_ascending.nd (kiZip (K := K) (by rfl) T.n_zip (pa_cons (pv 0) (pa_cons (pe_slice (kSlA (K := K)) (pv 0) (po_some pe_int) po_none) pa_nil))) (blkOk_by (own := [("one", 1), ("other", 2)]) (N := ["thing", "one", "other"]) (sc := defScope s_is_ascending) (by decide +kernel)) (fun _ _ _ _ _ => (kgTup (K := K) rfl (pgs_cons (pg_name (i := 1) sc_is_ascending.nd rfl (.inl rfl)) (pgs_cons (pg_name (i := 2) sc_is_ascending.nd rfl (.inl rfl)) pgs_nil)))) (fun _ _ _ _ _ => pts_nil) (fun _ _ _ _ _ => (pe_cmpR op_lt (pv 1) (pv 2) (nomark _)))) pa_nil))))), ?_⟩
    obtain ⟨x0, rfl, h0⟩ := hd.single
    have v0 : EvD K (tVar 0) (L2.start ["thing", "one", "other"] [x0]) H (intsD ns) := evd_v 0 rfl h0
    have hz := zipD_len (ds := ns.map PyData.int) (es := (ns.map PyData.int).drop 1)
    refine evs_retD (d := .bool true) (evd_allT (n := (zipD (ns.map PyData.int) ((ns.map PyData.int).drop 1)).length) (evl_map2 (f := fun _ => .bool true) (evi_zipT (eva_cons v0 (eva_cons (evd_is (evd_slA v0 (evo_i (evd_int (K := K))) evo_no) (by rw [cut_one])) eva_nil))).same ?_ (fun d hd => ?_) fun a b x y H1 hd s dx dy => ?_) (map_true _)) fun v H1 s p => q _ v H1 s p rfl
    · rw [hz, List.length_map]; omega
    · obtain ⟨_, a, b, _, _, e⟩ := zip_next hd
      exact ⟨_, _, e⟩
    · obtain ⟨i, a', b', e1, e2, e⟩ := zip_next hd
      have h1 : a = .int a' := by injection e with e; injection e with e _
      have h2 : b = .int b' := by injection e with e; injection e with _ e; injection e with e _
      subst h1 h2
      have lt : a' < b' := next_lt (f := id) (r := (· < ·)) (by simpa using pw) e1 e2
      exact evd_is (evd_lt (g := fun i j => decide (i < j)) (evd_v 1 rfl dx) (evd_v 2 rfl dy)) (by rw [decide_eq_true lt])
theorem ok_is_ascendingT (T : Txt K mg) : FnOk P w K mg base CX0 1 T.A_is_ascending.f T.A_is_ascending.d ["thing"] (spAscT K) := by
  refine T.A_is_ascending.F.ok sc_is_ascending (fun vs H Q E h => ?_) (fun cdv A outer s H vs Q E hr h => ?_)
  · obtain ⟨ds, hd, ⟨_, rfl, _⟩, _⟩ := h; exact hd.length
  · obtain ⟨ds, hd, ⟨ns, rfl, pw, hl⟩, q⟩ := h
    refine ⟨_, ((pss_one (ps_ret (pe_callB (kAll (K := K)) (by rfl) T.n_all (by decide +kernel) (pa_cons (pe_lc (own := [("one", 1), ("other", 2)]) (g := gTup K 2 (gCons (gName 1) (gCons (gName 2) (gNil)))) (tt := tYes) rfl sc_is_ascending.nd (kiZip (K := K) (by rfl) T.n_zip (pa_cons (pv 0) (pa_cons (pe_slice (kSlA (K := K)) (pv 0) (po_some pe_int) po_none) pa_nil))) (blkOk_by (own := [("one", 1), ("other", 2)]) (N := ["thing", "one", "other"]) (sc := defScope s_is_ascending) (by decide +kernel)) (fun _ _ _ _ _ => (kgTup (K := K) rfl (pgs_cons (pg_name (i := 1) sc_is_ascending.nd rfl (.inl rfl)) (pgs_cons (pg_name (i := 2) sc_is_ascending.nd rfl (.inl rfl)) pgs_nil)))) (fun _ _ _ _ _ => pts_nil) (fun _ _ _ _ _ => (pe_cmpR (kLtT (K := K) (hu64 hr)) (pv 1) (pv 2) (nomark _)))) pa_nil))))), ?_⟩
    obtain ⟨x0, rfl, h0⟩ := hd.single
    have v0 : EvD K (tVar 0) (L2.start ["thing", "one", "other"] [x0]) H (rowsT ns) := evd_v 0 rfl h0
    have hz := zipD_len (ds := ns.map tupI) (es := (ns.map tupI).drop 1)
    refine evs_retD (d := .bool true) (evd_allT (n := (zipD (ns.map tupI) ((ns.map tupI).drop 1)).length) (evl_map2 (f := fun _ => .bool true) (evi_zipT (eva_cons v0 (eva_cons (evd_is (evd_slA v0 (evo_i (evd_int (K := K))) evo_no) (by rw [cut_one])) eva_nil))).same ?_ (fun d hd => ?_) fun a b x y H1 hd s dx dy => ?_) (map_true _)) fun v H1 s p => q _ v H1 s p rfl
    · rw [hz, List.length_map]; omega
    · obtain ⟨_, a, b, _, _, e⟩ := zip_next hd
      exact ⟨_, _, e⟩
    · obtain ⟨i, a', b', e1, e2, e⟩ := zip_next hd
      have h1 : a = tupI a' := by injection e with e; injection e with e _
      have h2 : b = tupI b' := by injection e with e; injection e with _ e; injection e with e _
      subst h1 h2
      have lt : a' < b' := next_lt (f := id) (r := (· < ·)) (by simpa using pw) e1 e2
      exact evd_is (evd_ltT (evd_v 1 rfl dx) (evd_v 2 rfl dy)) (by rw [decide_eq_true lt])
end
end Kw

set_option maxRecDepth 100000
set_option maxHeartbeats 2000000
/-! are_indexes, is_move, is_any_machine, is_machine, need_.. : of machines that are right -/
namespace Kw
open PySem PySem.Spec PyProof.Rows L2 KD Mx
section
variable {P : Program} {w : World} {K : PySem.W.Frag} {mg : Str → Option Value} {base : Heap}
def spIdx (K : PySem.W.Frag) : Sp := spD K (fun ds => ∃ (l : List Nat) (n : Nat), ds = [intsD (zs l), .int (n : Nat)] ∧ (∀ p ∈ l, p < n) ∧ (zs l).Pairwise (· < ·) ∧ l.length ≤ 5000) (fun _ r => r = .bool true)
theorem zs_mem {l : List Nat} {d : PyData} (h : d ∈ (zs l).map PyData.int) : ∃ p ∈ l, d = .int (p : Nat) := by
  obtain ⟨i, hi, rfl⟩ := List.mem_map.mp h
  obtain ⟨p, hp, rfl⟩ := List.mem_map.mp hi
  exact ⟨p, hp, rfl⟩
theorem zs_len (l : List Nat) : (zs l).length = l.length := List.length_map ..
theorem ok_are_indexes (T : Txt K mg) : FnOk P w K mg base CX0 3 T.A_are_indexes.f T.A_are_indexes.d ["thing", "many"] (spIdx K) := by
  refine T.A_are_indexes.F.ok sc_are_indexes (fun vs H Q E h => ?_) (fun cdv A outer s H vs Q E hr h => ?_)
  · obtain ⟨ds, hd, ⟨_, _, rfl, _⟩, _⟩ := h; exact hd.length
  · obtain ⟨ds, hd, ⟨l, n, rfl, hl, pw, few⟩, q⟩ := h
    refine ⟨_, ((pss_one (ps_ret (pe_and (pe_callB (kIsi (K := K)) (by rfl) T.n_isinstance (by decide +kernel) (pa_cons (pv 0) (pa_cons (pe_bltn (v := .ty "tuple") (by rfl) T.n_tuple (by decide +kernel) rfl) pa_nil))) (pe_and (pe_callB (kAll (K := K)) (by rfl) T.n_all (by decide +kernel) (pa_cons (pe_lc (own := [("entry", 2)]) (g := gName 2) (tt := tYes) rfl sc_are_indexes.nd (kiTup (K := K) (pv 0)) (blkOk_by (own := [("entry", 2)]) (N := ["thing", "many", "entry"]) (sc := defScope s_are_indexes) (by decide +kernel)) (fun _ _ _ _ _ => (pg_name (i := 2) sc_are_indexes.nd rfl (.inl rfl))) (fun _ _ _ _ _ => pts_nil) (fun _ _ _ _ _ => (pe_call (ok_within T) (hr.mono (by decide)) (by rfl) T.A_within.g T.A_within.F.kp T.A_within.b .nil pass0 (pa_cons (pv 2) (pa_cons pe_int (pa_cons (pe_op op_sub (pv 1) pe_int) pa_nil)))))) pa_nil)) (pe_one (pe_call (ok_is_ascendingI T) (hr.mono (by decide)) (by rfl) T.A_is_ascending.g T.A_is_ascending.F.kp T.A_is_ascending.b .nil pass0 (pa_cons (pv 0) pa_nil)))))))), ?_⟩
    obtain ⟨x0, x1, rfl, h0, h1⟩ := hd.two
    have v0 : EvD K (tVar 0) (L2.start ["thing", "many", "entry"] [x0, x1]) H (intsD (zs l)) := evd_v 0 rfl h0
    refine evs_retD (d := .bool true) (evd_and (a := true) (evd_isi v0 (kit_tuple (d := intsD (zs l)) rfl)) fun _ => evd_and (a := true) (b := true) (evd_allT (n := ((zs l).map PyData.int).length) (evl_map (f := fun _ => .bool true) (evi_tup v0).same ?_ fun d x H1 hd s dx => ?_) (map_true _)) fun _ => evd_callX (eva_cons v0 eva_nil) ⟨zs l, rfl, pw, by rw [zs_len]; exact few⟩ fun r e => e) fun v H1 s p => q _ v H1 s p rfl
    · rw [List.length_map, zs_len]; omega
    · obtain ⟨p, hp, rfl⟩ := zs_mem hd
      have := hl p hp
      exact evd_callF (eva_cons (evd_v 2 rfl dx) (eva_cons evd_int (eva_cons (evd_ar (evd_v 1 rfl (h1.mono s)) evd_int) eva_nil))) (f_within_ok (by omega) (by omega))
def MvOk (k n : Nat) (m : Mx.Move) : Prop := m.1 < n ∧ m.2.1 < k ∧ (-1 ≤ m.2.2.1 ∧ m.2.2.1 ≤ 50) ∧ m.2.2.2 < n
def spIsMove (K : PySem.W.Frag) : Sp := spD K (fun ds => ∃ (k n : Nat) (m : Mx.Move), ds = [.int (k : Nat), .int (n : Nat), tupI (moveL m)] ∧ MvOk k n m) (fun _ r => r = .bool true)
theorem ok_is_move (T : Txt K mg) : FnOk P w K mg base CX0 3 T.A_is_move.f T.A_is_move.d ["many_letters", "states", "thing"] (spIsMove K) := by
  refine T.A_is_move.F.ok sc_is_move (fun vs H Q E h => ?_) (fun cdv A outer s H vs Q E hr h => ?_)
  · obtain ⟨ds, hd, ⟨_, _, _, rfl, _⟩, _⟩ := h; exact hd.length
  · obtain ⟨ds, hd, ⟨k, n, ⟨p, a, c, t⟩, rfl, o1, o2, o3, o4⟩, q⟩ := h
    refine ⟨_, ((pss_cons (ps_if (PW.pt (pw_or (pt_not (pt_val (pe_call (ok_is_row T) (hr.mono (by decide)) (by rfl) T.A_is_row.g T.A_is_row.F.kp T.A_is_row.b .nil pass0 (pa_cons (pv 2) (pa_cons pe_int (pa_cons pe_int pa_nil)))))) (pw_or1 (pt_not (pt_val (pe_callB (kAll (K := K)) (by rfl) T.n_all (by decide +kernel) (pa_cons (pe_lc (own := [("state", 3)]) (g := gName 3) (tt := tYes) rfl sc_is_move.nd (kiTup (K := K) (pe_tup (pa_cons (pe_ix (kIxT (K := K)) (pv 2) pe_int (fun _ _ => rfl)) (pa_cons (pe_ix (kIxT (K := K)) (pv 2) pe_int (fun _ _ => rfl)) pa_nil)))) (blkOk_by (own := [("state", 3)]) (N := ["many_letters", "states", "thing", "state"]) (sc := defScope s_is_move) (by decide +kernel)) (fun _ _ _ _ _ => (pg_name (i := 3) sc_is_move.nd rfl (.inl rfl))) (fun _ _ _ _ _ => pts_nil) (fun _ _ _ _ _ => (pe_call (ok_within T) (hr.mono (by decide)) (by rfl) T.A_within.g T.A_within.F.kp T.A_within.b .nil pass0 (pa_cons (pv 3) (pa_cons pe_int (pa_cons (pe_op op_sub (pv 1) pe_int) pa_nil)))))) pa_nil))))))) (pss_one (ps_ret pe_bl)) pss_nil)
  (pss_one (ps_ret (pe_and (pe_call (ok_within T) (hr.mono (by decide)) (by rfl) T.A_within.g T.A_within.F.kp T.A_within.b .nil pass0 (pa_cons (pe_ix (kIxT (K := K)) (pv 2) pe_int (fun _ _ => rfl)) (pa_cons pe_int (pa_cons (pe_op op_sub (pv 0) pe_int) pa_nil)))) (pe_one (pe_call (ok_within T) (hr.mono (by decide)) (by rfl) T.A_within.g T.A_within.F.kp T.A_within.b .nil pass0 (pa_cons (pe_ix (kIxT (K := K)) (pv 2) pe_int (fun _ _ => rfl)) (pa_cons (pe_glob (v := .int (-1)) rfl T.v_RESET_COST ⟨_, rfl⟩) (pa_cons (pe_glob (v := .int 50) rfl T.v_MOST_COST ⟨_, rfl⟩) pa_nil)))))))))), ?_⟩
    obtain ⟨x0, x1, x2, rfl, h0, h1, h2⟩ := hd.three
    have v2 : ∀ {H1 : Hp}, Same H H1 → EvD K (tVar 2) (L2.start ["many_letters", "states", "thing", "state"] [x0, x1, x2]) H1 (.tuple [.int (p : Nat), .int (a : Nat), .int c, .int (t : Nat)]) := fun s => evd_v 2 rfl (h2.mono s)
    refine evs_if (b := false) (evb_is (evb_or (evb_not (evb_B (evd_callF (eva_cons (v2 (Same.refl _)) (eva_cons evd_int (eva_cons evd_int eva_nil))) (f_row_ok (by simp) (by simp))))) fun _ => evb_not (evb_B (evd_allT (n := 2) (evl_map (f := fun _ => .bool true) (evi_tup (evd_tup (eva_cons (evd_ixT (i := 0) (v2 (Same.refl _)) evd_int rfl) (eva_cons (evd_ixT (i := 3) (v2 (Same.refl _)) evd_int rfl) eva_nil)) (by simp))).same (by simp) fun d x H1 hd s dx => ?_) rfl))) rfl) (fun z => nomatch z) fun _ H1 s1 => ?_
    · simp only [List.mem_cons, List.not_mem_nil, or_false] at hd
      have w1 := evd_v (K := K) (σ := ((wipe (L2.start ["many_letters", "states", "thing", "state"] [x0, x1, x2]) [3]).set 3 (some x))) 1 rfl (h1.mono s)
      rcases hd with rfl | rfl
      · have := o1
        exact evd_callF (eva_cons (evd_v 3 rfl dx) (eva_cons evd_int (eva_cons (evd_ar w1 evd_int) eva_nil))) (f_within_ok (by omega) (by simp only at this; omega))
      · have := o4
        exact evd_callF (eva_cons (evd_v 3 rfl dx) (eva_cons evd_int (eva_cons (evd_ar w1 evd_int) eva_nil))) (f_within_ok (by omega) (by simp only at this; omega))
    · have := o2
      refine evs_retD (d := .bool true) (evd_and (a := true) (b := true) (evd_callF (eva_cons (evd_ixT (i := 1) (v2 s1) evd_int rfl) (eva_cons evd_int (eva_cons (evd_ar (evd_v 0 rfl (h0.mono s1)) evd_int) eva_nil))) (f_within_ok (by omega) (by simp only at this; omega))) fun _ => evd_callF (eva_cons (evd_ixT (i := 2) (v2 s1) evd_int rfl) (eva_cons evd_int (eva_cons evd_int eva_nil))) (f_within_ok o3.1 o3.2)) fun v H2 s2 p2 => q _ v H2 (s1.trans s2) p2 rfl
theorem rowsT_mem {l : List Mx.Move} {d : PyData} (h : d ∈ (l.map moveL).map tupI) : ∃ m ∈ l, d = tupI (moveL m) := by
  obtain ⟨i, hi, rfl⟩ := List.mem_map.mp h
  obtain ⟨p, hp, rfl⟩ := List.mem_map.mp hi
  exact ⟨p, hp, rfl⟩
def spMach (K : PySem.W.Frag) : Sp := spD K (fun ds => ∃ (lt : List Str) (M : Mach), ds = [machD lt M] ∧ MOk lt M) (fun _ r => r = .bool true)
theorem ok_is_any_machine (T : Txt K mg) : FnOk P w K mg base CX0 4 T.A_is_any_machine.f T.A_is_any_machine.d ["thing"] (spMach K) := by
  refine T.A_is_any_machine.F.ok sc_is_any_machine (fun vs H Q E h => ?_) (fun cdv A outer s H vs Q E hr h => ?_)
  · obtain ⟨ds, hd, ⟨_, _, rfl, _⟩, _⟩ := h; exact hd.length
  · obtain ⟨ds, hd, ⟨lt, M, rfl, ok⟩, q⟩ := h
    refine ⟨_, ((pss_cons (ps_if (PW.pt (pw_or (pt_not (pt_val (pe_call (ok_is_row T) (hr.mono (by decide)) (by rfl) T.A_is_row.g T.A_is_row.F.kp T.A_is_row.b .nil pass0 (pa_cons (pv 0) (pa_cons pe_int (pa_cons pe_int pa_nil)))))) (pw_or (pt_not (pt_val (pe_call (ok_are_letters T) (hr.mono (by decide)) (by rfl) T.A_are_letters.g T.A_are_letters.F.kp T.A_are_letters.b .nil pass0 (pa_cons (pe_ix (kIxT (K := K)) (pv 0) pe_int (fun _ _ => rfl)) pa_nil)))) (pw_or (pt_not (pt_val (pe_call (ok_is_int T) (hr.mono (by decide)) (by rfl) T.A_is_int.g T.A_is_int.F.kp T.A_is_int.b .nil pass0 (pa_cons (pe_ix (kIxT (K := K)) (pv 0) pe_int (fun _ _ => rfl)) pa_nil)))) (pw_or1 (pt_cmpR op_lt (pe_ix (kIxT (K := K)) (pv 0) pe_int (fun _ _ => rfl)) pe_int (nomark _))))))) (pss_one (ps_ret pe_bl)) pss_nil)
  (pss_cons (ps_asg (pv 0) (kgTup (K := K) rfl (pgs_cons (pg_name (i := 1) sc_is_any_machine.nd rfl (.inr rfl)) (pgs_cons (pg_name (i := 2) sc_is_any_machine.nd rfl (.inr rfl)) (pgs_cons (pg_name (i := 3) sc_is_any_machine.nd rfl (.inl rfl)) (pgs_cons (pg_name (i := 4) sc_is_any_machine.nd rfl (.inl rfl)) (pgs_cons (pg_name (i := 5) sc_is_any_machine.nd rfl (.inl rfl)) pgs_nil)))))))
  (pss_cons (ps_if (PW.pt (pw_or (pt_not (pt_val (pe_call (ok_are_indexes T) (hr.mono (by decide)) (by rfl) T.A_are_indexes.g T.A_are_indexes.F.kp T.A_are_indexes.b .nil pass0 (pa_cons (pv 3) (pa_cons (pv 2) pa_nil))))) (pw_or (pt_not (pt_val (pe_call (ok_are_indexes T) (hr.mono (by decide)) (by rfl) T.A_are_indexes.g T.A_are_indexes.F.kp T.A_are_indexes.b .nil pass0 (pa_cons (pv 4) (pa_cons (pv 2) pa_nil))))) (pw_or1 (pt_not (pt_val (pe_callB (kIsi (K := K)) (by rfl) T.n_isinstance (by decide +kernel) (pa_cons (pv 5) (pa_cons (pe_bltn (v := .ty "tuple") (by rfl) T.n_tuple (by decide +kernel) rfl) pa_nil))))))))) (pss_one (ps_ret pe_bl)) pss_nil)
  (pss_one (ps_ret (pe_and (pe_callB (kAll (K := K)) (by rfl) T.n_all (by decide +kernel) (pa_cons (pe_lc (own := [("move", 6)]) (g := gName 6) (tt := tYes) rfl sc_is_any_machine.nd (kiTup (K := K) (pv 5)) (blkOk_by (own := [("move", 6)]) (N := ["thing", "letters", "states", "starts", "ends", "moves", "move"]) (sc := defScope s_is_any_machine) (by decide +kernel)) (fun _ _ _ _ _ => (pg_name (i := 6) sc_is_any_machine.nd rfl (.inl rfl))) (fun _ _ _ _ _ => pts_nil) (fun _ _ _ _ _ => (pe_call (ok_is_move T) (hr.mono (by decide)) (by rfl) T.A_is_move.g T.A_is_move.F.kp T.A_is_move.b .nil pass0 (pa_cons (pe_callB (kLen (K := K)) (by rfl) T.n_len (by decide +kernel) (pa_cons (pv 1) pa_nil)) (pa_cons (pv 2) (pa_cons (pv 6) pa_nil)))))) pa_nil)) (pe_one (pe_call (ok_is_ascendingT T) (hr.mono (by decide)) (by rfl) T.A_is_ascending.g T.A_is_ascending.F.kp T.A_is_ascending.b .nil pass0 (pa_cons (pv 5) pa_nil)))))))))), ?_⟩
    obtain ⟨x0, rfl, h0⟩ := hd.single
    have n1 := ok.ok.n1
    have v0 : EvD K (tVar 0) (L2.start ["thing", "letters", "states", "starts", "ends", "moves", "move"] [x0]) H (machD lt M) := evd_v 0 rfl h0
    refine evq_ifn (b := false) (evb_is (evb_or (a := false) (evb_is (evb_not (evb_B (evd_callF (eva_cons v0 (eva_cons evd_int (eva_cons evd_int eva_nil))) (f_row_ok (by simp) (by simp))))) rfl) fun _ => evb_or (a := false) (evb_is (evb_not (evb_B (evd_callX (d := .bool true) (eva_cons (evd_ixT (i := 0) v0 evd_int rfl) eva_nil) ⟨lt, rfl, ok.lets⟩ fun r e => e))) rfl) fun _ => evb_or (a := false) (b := false) (evb_is (evb_not (evb_B (evd_callF (eva_cons (evd_ixT (i := 1) v0 evd_int rfl) eva_nil) (r := .bool true) rfl))) rfl) fun _ => evb_is (evb_test (evd_lt (g := fun i j => decide (i < j)) (evd_ixT (i := 1) v0 evd_int rfl) evd_int)) (decide_eq_false (by omega))) rfl) (fun z => nomatch z) fun _ H1 s1 => ?_
    refine evq_tup5 (evd_v 0 rfl (h0.mono s1)) fun y1 y2 y3 y4 y5 H2 s2 d1 d2 d3 d4 d5 => ?_
    have st := ok.ok.st
    refine evq_ifn (b := false) (evb_is (evb_or (a := false) (evb_is (evb_not (evb_B (evd_callX (d := .bool true) (eva_cons (evd_v 3 rfl d3) (eva_cons (evd_v 2 rfl d2) eva_nil)) ⟨M.st, M.n, rfl, ok.ok.st, ok.st, by have := ok.sfew; omega⟩ fun r e => e))) rfl) fun _ => evb_or (a := false) (b := false) (evb_is (evb_not (evb_B (evd_callX (d := .bool true) (eva_cons (evd_v 4 rfl d4) (eva_cons (evd_v 2 rfl d2) eva_nil)) ⟨M.en, M.n, rfl, ok.ok.en, ok.en, by have := ok.efew; omega⟩ fun r e => e))) rfl) fun _ => evb_is (evb_not (evb_B (evd_isi (evd_v 5 rfl d5) (kit_tuple (d := rowsT (M.mv.map moveL)) rfl)))) rfl) rfl) (fun z => nomatch z) fun _ H3 s3 => ?_
    refine evs_retD (d := .bool true) (evd_and (a := true) (b := true) (evd_allT (n := ((M.mv.map moveL).map tupI).length) (evl_map (f := fun _ => .bool true) (evi_tup (evd_v 5 rfl (d5.mono s3))).same ?_ fun d x H4 hd s4 dx => ?_) (map_true _)) fun _ => evd_callX (eva_cons (evd_v 5 rfl (d5.mono s3)) eva_nil) ⟨M.mv.map moveL, rfl, ok.mv, by rw [List.length_map]; exact ok.few⟩ fun r e => e) fun v H4 s4 p => q _ v H4 (((s1.trans s2).trans s3).trans s4) p rfl
    · rw [List.length_map, List.length_map]; have := ok.few; omega
    · obtain ⟨m, hm, rfl⟩ := rowsT_mem hd
      exact evd_callX (eva_cons (evd_lenT (evd_v 1 rfl ((d1.mono s3).mono s4))) (eva_cons (evd_v 2 rfl ((d2.mono s3).mono s4)) (eva_cons (evd_v 6 rfl dx) eva_nil))) ⟨lt.length, M.n, m, by rw [List.length_map], ok.ok.mv _ _ _ _ hm⟩ fun r e => e
theorem ok_is_machine (T : Txt K mg) : FnOk P w K mg base CX0 5 T.A_is_machine.f T.A_is_machine.d ["thing"] (spMach K) := by
  refine T.A_is_machine.F.ok sc_is_machine (fun vs H Q E h => ?_) (fun cdv A outer s H vs Q E hr h => ?_)
  · obtain ⟨ds, hd, ⟨_, _, rfl, _⟩, _⟩ := h; exact hd.length
  · obtain ⟨ds, hd, ⟨lt, M, rfl, ok⟩, q⟩ := h
    refine ⟨_, ((pss_cons (ps_if (PW.pt (pw_or (pt_not (pt_val (pe_call (ok_is_row T) (hr.mono (by decide)) (by rfl) T.A_is_row.g T.A_is_row.F.kp T.A_is_row.b .nil pass0 (pa_cons (pv 0) (pa_cons pe_int (pa_cons pe_int pa_nil)))))) (pw_or (pt_not (pt_val (pe_call (ok_within T) (hr.mono (by decide)) (by rfl) T.A_within.g T.A_within.F.kp T.A_within.b .nil pass0 (pa_cons (pe_ix (kIxT (K := K)) (pv 0) pe_int (fun _ _ => rfl)) (pa_cons pe_int (pa_cons (pe_glob (v := .int 12) rfl T.v_MOST_STATES ⟨_, rfl⟩) pa_nil)))))) (pw_or1 (pt_not (pt_val (pe_call (ok_is_row T) (hr.mono (by decide)) (by rfl) T.A_is_row.g T.A_is_row.F.kp T.A_is_row.b .nil pass0 (pa_cons (pe_ix (kIxT (K := K)) (pv 0) pe_int (fun _ _ => rfl)) (pa_cons pe_int (pa_cons (pe_glob (v := .int 5000) rfl T.v_MOST_MOVES ⟨_, rfl⟩) pa_nil)))))))))) (pss_one (ps_ret pe_bl)) pss_nil)
  (pss_one (ps_ret (pe_call (ok_is_any_machine T) (hr.mono (by decide)) (by rfl) T.A_is_any_machine.g T.A_is_any_machine.F.kp T.A_is_any_machine.b .nil pass0 (pa_cons (pv 0) pa_nil)))))), ?_⟩
    obtain ⟨x0, rfl, h0⟩ := hd.single
    have n1 := ok.ok.n1
    have n2 := ok.n12
    have fw := ok.few
    have v0 : EvD K (tVar 0) (L2.start ["thing"] [x0]) H (machD lt M) := evd_v 0 rfl h0
    refine evq_ifn (b := false) (evb_is (evb_or (a := false) (evb_is (evb_not (evb_B (evd_callF (eva_cons v0 (eva_cons evd_int (eva_cons evd_int eva_nil))) (f_row_ok (by simp) (by simp))))) rfl) fun _ => evb_or (a := false) (b := false) (evb_is (evb_not (evb_B (evd_callF (eva_cons (evd_ixT (i := 1) v0 evd_int rfl) (eva_cons evd_int (eva_cons evd_int eva_nil))) (f_within_ok (by omega) (by omega))))) rfl) fun _ => evb_is (evb_not (evb_B (evd_callF (eva_cons (evd_ixT (i := 4) v0 evd_int rfl) (eva_cons evd_int (eva_cons evd_int eva_nil))) (f_row_ok (by simp) (by simp only [List.length_map]; omega))))) rfl) rfl) (fun z => nomatch z) fun _ H1 s1 => ?_
    exact evs_retD (d := .bool true) (evd_callX (eva_cons (evd_v 0 rfl (h0.mono s1)) eva_nil) ⟨lt, M, rfl, ok⟩ fun r e => e) fun v H2 s2 p2 => q _ v H2 (s1.trans s2) p2 rfl
/-- what asks for a right machine, and gets one -/
def spNeedM (K : PySem.W.Frag) : Sp := spD K (fun ds => ∃ (lt : List Str) (M : Mach), ds = [machD lt M] ∧ MOk lt M) (fun _ r => r = .none)
theorem ok_need_machine (T : Txt K mg) : FnOk P w K mg base CX0 6 T.A_need_machine.f T.A_need_machine.d ["machine"] (spNeedM K) := by
  refine T.A_need_machine.F.ok sc_need_machine (fun vs H Q E h => ?_) (fun cdv A outer s H vs Q E hr h => ?_)
  · obtain ⟨ds, hd, ⟨_, _, rfl, _⟩, _⟩ := h; exact hd.length
  · obtain ⟨ds, hd, ⟨lt, M, rfl, ok⟩, q⟩ := h
    refine ⟨_, ((pss_one (ps_if (pt_not (pt_val (pe_call (ok_is_machine T) (hr.mono (by decide)) (by rfl) T.A_is_machine.g T.A_is_machine.F.kp T.A_is_machine.b .nil pass0 (pa_cons (pv 0) pa_nil)))) (pss_one ps_never) pss_nil))), ?_⟩
    obtain ⟨x0, rfl, h0⟩ := hd.single
    exact evs_if (b := false) (evb_is (evb_not (evb_B (evd_callX (d := .bool true) (eva_cons (evd_v 0 rfl h0) eva_nil) ⟨lt, M, rfl, ok⟩ fun r e => e))) rfl) (fun z => nomatch z) fun _ H1 s1 => q _ _ _ s1 .non rfl
theorem ok_need_other_machine (T : Txt K mg) : FnOk P w K mg base CX0 6 T.A_need_other_machine.f T.A_need_other_machine.d ["other"] (spNeedM K) := by
  refine T.A_need_other_machine.F.ok sc_need_other_machine (fun vs H Q E h => ?_) (fun cdv A outer s H vs Q E hr h => ?_)
  · obtain ⟨ds, hd, ⟨_, _, rfl, _⟩, _⟩ := h; exact hd.length
  · obtain ⟨ds, hd, ⟨lt, M, rfl, ok⟩, q⟩ := h
    refine ⟨_, ((pss_one (ps_if (pt_not (pt_val (pe_call (ok_is_machine T) (hr.mono (by decide)) (by rfl) T.A_is_machine.g T.A_is_machine.F.kp T.A_is_machine.b .nil pass0 (pa_cons (pv 0) pa_nil)))) (pss_one ps_never) pss_nil))), ?_⟩
    obtain ⟨x0, rfl, h0⟩ := hd.single
    exact evs_if (b := false) (evb_is (evb_not (evb_B (evd_callX (d := .bool true) (eva_cons (evd_v 0 rfl h0) eva_nil) ⟨lt, M, rfl, ok⟩ fun r e => e))) rfl) (fun z => nomatch z) fun _ H1 s1 => q _ _ _ s1 .non rfl
def spNeedAlike0 (K : PySem.W.Frag) : Sp := spD K (fun ds => ∃ a, ds = [letD a, letD a] ∧ LetOk a) (fun _ r => r = .none)
theorem ok_need_alike (T : Txt K mg) : FnOk P w K mg base CX0 1 T.A_need_alike.f T.A_need_alike.d ["letters", "others"] (spNeedAlike0 K) := by
  refine T.A_need_alike.F.ok sc_need_alike (fun vs H Q E h => ?_) (fun cdv A outer s H vs Q E hr h => ?_)
  · obtain ⟨ds, hd, ⟨_, rfl, _⟩, _⟩ := h; exact hd.length
  · obtain ⟨ds, hd, ⟨a, rfl, oa⟩, q⟩ := h
    refine ⟨_, ((pss_one (ps_if (pt_cmpR (kNeD (K := K) (hu64 hr)) (pv 0) (pv 1) (nomark _)) (pss_one ps_never) pss_nil))), ?_⟩
    obtain ⟨x0, x1, rfl, h0, h1⟩ := hd.two
    exact evs_if (b := false) (evb_is (evb_test (evd_neG (b := true) (evd_v 0 rfl h0) (evd_v 1 rfl h1) (good_let oa) (good_let oa) (by decide) (by decide) (by simp))) rfl) (fun z => nomatch z) fun _ H1 s1 => q _ _ _ s1 .non rfl
def spNeed2 (K : PySem.W.Frag) : Sp := spD K (fun ds => ∃ (lt : List Str) (M N : Mach), ds = [machD lt M, machD lt N] ∧ MOk lt M ∧ MOk lt N) (fun _ r => r = .none)
theorem ok_need_both_machines (T : Txt K mg) : FnOk P w K mg base CX0 7 T.A_need_both_machines.f T.A_need_both_machines.d ["machine", "other"] (spNeed2 K) := by
  refine T.A_need_both_machines.F.ok sc_need_both_machines (fun vs H Q E h => ?_) (fun cdv A outer s H vs Q E hr h => ?_)
  · obtain ⟨ds, hd, ⟨_, _, _, rfl, _⟩, _⟩ := h; exact hd.length
  · obtain ⟨ds, hd, ⟨lt, M, N, rfl, o1, o2⟩, q⟩ := h
    refine ⟨_, ((pss_cons (ps_expr (pe_call (ok_need_machine T) (hr.mono (by decide)) (by rfl) T.A_need_machine.g T.A_need_machine.F.kp T.A_need_machine.b .nil pass0 (pa_cons (pv 0) pa_nil)))
  (pss_cons (ps_expr (pe_call (ok_need_other_machine T) (hr.mono (by decide)) (by rfl) T.A_need_other_machine.g T.A_need_other_machine.F.kp T.A_need_other_machine.b .nil pass0 (pa_cons (pv 1) pa_nil)))
  (pss_one (ps_expr (pe_call (ok_need_alike T) (hr.mono (by decide)) (by rfl) T.A_need_alike.g T.A_need_alike.F.kp T.A_need_alike.b .nil pass0 (pa_cons (pe_ix (kIxT (K := K)) (pv 0) pe_int (fun _ _ => rfl)) (pa_cons (pe_ix (kIxT (K := K)) (pv 1) pe_int (fun _ _ => rfl)) pa_nil)))))))), ?_⟩
    obtain ⟨x0, x1, rfl, h0, h1⟩ := hd.two
    refine evq_drop (evp_call (eva_cons (evd_v 0 rfl h0) eva_nil) ⟨lt, M, rfl, o1⟩) fun H1 r s1 _ => ?_
    refine evq_drop (evp_call (eva_cons (evd_v 1 rfl (h1.mono s1)) eva_nil) ⟨lt, N, rfl, o2⟩) fun H2 r s2 _ => ?_
    exact evs_drop (evp_call (eva_cons (evd_ixT (i := 0) (evd_v 0 rfl ((h0.mono s1).mono s2)) evd_int rfl) (eva_cons (evd_ixT (i := 0) (evd_v 1 rfl ((h1.mono s1).mono s2)) evd_int rfl) eva_nil)) ⟨lt, rfl, o1.lets⟩) fun H3 r s3 _ => q _ _ _ ((s1.trans s2).trans s3) .non rfl
def spNeedTwo (K : PySem.W.Frag) : Sp := spNeed2 K
theorem ok_need_two_machines (T : Txt K mg) : FnOk P w K mg base CX0 7 T.A_need_two_machines.f T.A_need_two_machines.d ["first", "second"] (spNeed2 K) := by
  refine T.A_need_two_machines.F.ok sc_need_two_machines (fun vs H Q E h => ?_) (fun cdv A outer s H vs Q E hr h => ?_)
  · obtain ⟨ds, hd, ⟨_, _, _, rfl, _⟩, _⟩ := h; exact hd.length
  · obtain ⟨ds, hd, ⟨lt, M, N, rfl, o1, o2⟩, q⟩ := h
    refine ⟨_, ((pss_cons (ps_expr (pe_call (ok_need_machine T) (hr.mono (by decide)) (by rfl) T.A_need_machine.g T.A_need_machine.F.kp T.A_need_machine.b .nil pass0 (pa_cons (pv 0) pa_nil)))
  (pss_cons (ps_if (pt_not (pt_val (pe_call (ok_is_machine T) (hr.mono (by decide)) (by rfl) T.A_is_machine.g T.A_is_machine.F.kp T.A_is_machine.b .nil pass0 (pa_cons (pv 1) pa_nil)))) (pss_one ps_never) pss_nil)
  (pss_one (ps_if (pt_cmpR (kNeD (K := K) (hu64 hr)) (pe_ix (kIxT (K := K)) (pv 0) pe_int (fun _ _ => rfl)) (pe_ix (kIxT (K := K)) (pv 1) pe_int (fun _ _ => rfl)) (nomark _)) (pss_one ps_never) pss_nil))))), ?_⟩
    obtain ⟨x0, x1, rfl, h0, h1⟩ := hd.two
    refine evq_drop (evp_call (eva_cons (evd_v 0 rfl h0) eva_nil) ⟨lt, M, rfl, o1⟩) fun H1 r s1 _ => ?_
    refine evq_ifn (b := false) (evb_is (evb_not (evb_B (evd_callX (d := .bool true) (eva_cons (evd_v 1 rfl (h1.mono s1)) eva_nil) ⟨lt, N, rfl, o2⟩ fun r e => e))) rfl) (fun z => nomatch z) fun _ H2 s2 => ?_
    exact evs_if (b := false) (evb_is (evb_test (evd_neG (b := true) (evd_ixT (i := 0) (evd_v 0 rfl ((h0.mono s1).mono s2)) evd_int rfl) (evd_ixT (i := 0) (evd_v 1 rfl ((h1.mono s1).mono s2)) evd_int rfl) (good_let o1.lets) (good_let o1.lets) (by decide) (by decide) (by simp))) rfl) (fun z => nomatch z) fun _ H3 s3 => q _ _ _ ((s1.trans s2).trans s3) .non rfl
end
end Kw

set_option maxRecDepth 100000
set_option maxHeartbeats 2000000
/-! classes and their matrices -/
namespace Kw
open PySem PySem.Spec PyProof.Rows L2 KD Mx
def matD (A : Mat) : PyData := .tuple (A.map intsD)
theorem intsD_inj {a b : List Int} (h : intsD a = intsD b) : a = b := by
  unfold intsD at h
  injection h with h
  exact ints_inj h
theorem matD_inj {a b : Mat} (h : matD a = matD b) : a = b := by
  unfold matD at h
  injection h with h
  exact (List.map_inj_right fun x y e => intsD_inj e).mp h
theorem good_ints (l : List Int) : Good 1 (intsD l) := Good.tup fun d hd => by
  obtain ⟨i, _, rfl⟩ := List.mem_map.mp hd
  exact good_int i
theorem good_mat (A : Mat) : Good 2 (matD A) := Good.tup fun d hd => by
  obtain ⟨i, _, rfl⟩ := List.mem_map.mp hd
  exact good_ints i
section
variable {P : Program} {w : World} {K : PySem.W.Frag} {mg : Str → Option Value} {base : Heap}
def spOn (K : PySem.W.Frag) : Sp := spD K (fun ds => ∃ x y : Int, ds = [.int x, .int y]) (fun ds r => ∃ x y : Int, ds = [.int x, .int y] ∧ r = .int (on x y))
theorem on_at {ds : List PyData} {x y : Int} {r : PyData} (e : ds = [.int x, .int y]) (h : ∃ x y : Int, ds = [.int x, .int y] ∧ r = .int (on x y)) : r = .int (on x y) := by
  obtain ⟨a, b, e2, rfl⟩ := h
  rw [e] at e2
  simp only [List.cons.injEq, PyData.int.injEq, and_true] at e2
  rw [e2.1, e2.2]
theorem ok_on (T : Txt K mg) : FnOk P w K mg base CX0 1 T.A_on.f T.A_on.d ["x", "y"] (spOn K) := by
  refine T.A_on.F.ok sc_on (fun vs H Q E h => ?_) (fun cdv A outer s H vs Q E hr h => ?_)
  · obtain ⟨ds, hd, ⟨_, _, rfl⟩, _⟩ := h; exact hd.length
  · obtain ⟨ds, hd, ⟨x, y, rfl⟩, q⟩ := h
    refine ⟨_, ((pss_cons (ps_if (PW.pt (pw_or (pt_cmpR op_eq (pv 0) (pe_glob (v := .int 3) rfl T.v_NONE ⟨_, rfl⟩) (nomark _)) (pw_or1 (pt_cmpR op_eq (pv 1) (pe_glob (v := .int 3) rfl T.v_NONE ⟨_, rfl⟩) (nomark _))))) (pss_one (ps_ret (pe_glob (v := .int 3) rfl T.v_NONE ⟨_, rfl⟩))) pss_nil)
  (pss_cons (ps_if (PW.pt (pw_or (pt_cmpR op_eq (pv 0) (pe_glob (v := .int 2) rfl T.v_GROWING ⟨_, rfl⟩) (nomark _)) (pw_or1 (pt_cmpR op_eq (pv 1) (pe_glob (v := .int 2) rfl T.v_GROWING ⟨_, rfl⟩) (nomark _))))) (pss_one (ps_ret (pe_glob (v := .int 2) rfl T.v_GROWING ⟨_, rfl⟩))) pss_nil)
  (pss_cons (ps_if (PW.pt (pw_or (pt_cmpR op_eq (pv 0) (pe_glob (v := .int (-1)) rfl T.v_RESET ⟨_, rfl⟩) (nomark _)) (pw_or1 (pt_cmpR op_eq (pv 1) (pe_glob (v := .int (-1)) rfl T.v_RESET ⟨_, rfl⟩) (nomark _))))) (pss_one (ps_ret (pe_glob (v := .int (-1)) rfl T.v_RESET ⟨_, rfl⟩))) pss_nil)
  (pss_one (ps_ret (pe_callB (kMax2) (by rfl) T.n_max (by decide +kernel) (pa_cons (pv 0) (pa_cons (pv 1) pa_nil))))))))), ?_⟩
    obtain ⟨x0, x1, rfl, h0, h1⟩ := hd.two
    cases h0; cases h1
    have v0 : ∀ {H1 : Hp}, EvD K (tVar 0) (L2.start ["x", "y"] [V.int x, V.int y]) H1 (.int x) := evd_v 0 rfl (.int x)
    have v1 : ∀ {H1 : Hp}, EvD K (tVar 1) (L2.start ["x", "y"] [V.int x, V.int y]) H1 (.int y) := evd_v 1 rfl (.int y)
    have t : ∀ {H1 : Hp} (c : Int), EvB (tOr (tTest (tOp rEq (tVar 0) (tC (.int c)))) (tTest (tOp rEq (tVar 1) (tC (.int c))))) (L2.start ["x", "y"] [V.int x, V.int y]) H1 (decide (x = c) || decide (y = c)) := fun c => evb_or (evb_test (evd_eq v0 (evd_int (K := K)) rfl)) fun _ => evb_test (evd_eq v1 (evd_int (K := K)) rfl)
    have fin : ∀ {r : Int} {H1 : Hp}, Same H H1 → on x y = r → tRet (tC (.int r)) { rt := Q, nx := fun _ _ => Q .non H, bk := fun _ _ => False, ct := fun _ _ => False } (L2.start ["x", "y"] [V.int x, V.int y]) H1 → True := fun _ _ _ => trivial
    refine evq_ifn (t 3) (fun hb H1 s1 => ?_) fun hb H1 s1 => ?_
    · exact evs_retD (K := K) evd_int fun v H2 s2 p => q _ v H2 (s1.trans s2) p ⟨x, y, rfl, by rw [on, if_pos (by simpa using hb)]⟩
    have n3 : ¬ (x = 3 ∨ y = 3) := by simpa using hb
    refine evq_ifn (t 2) (fun hb H2 s2 => ?_) fun hb H2 s2 => ?_
    · exact evs_retD (K := K) evd_int fun v H3 s3 p => q _ v H3 ((s1.trans s2).trans s3) p ⟨x, y, rfl, by rw [on, if_neg n3, if_pos (by simpa using hb)]⟩
    have n2 : ¬ (x = 2 ∨ y = 2) := by simpa using hb
    refine evq_ifn (t (-1)) (fun hb H3 s3 => ?_) fun hb H3 s3 => ?_
    · exact evs_retD (K := K) evd_int fun v H4 s4 p => q _ v H4 (((s1.trans s2).trans s3).trans s4) p ⟨x, y, rfl, by rw [on, if_neg n3, if_neg n2, if_pos (by simpa using hb)]⟩
    have n1 : ¬ (x = -1 ∨ y = -1) := by simpa using hb
    exact ⟨_, rfl, _, rfl, x, y, rfl, q _ _ H3 ((s1.trans s2).trans s3) (.int _) ⟨x, y, rfl, by rw [on, if_neg n3, if_neg n2, if_neg n1]⟩⟩
def spBest (K : PySem.W.Frag) : Sp := spD K (fun ds => ∃ (r c : List Int), ds = [intsD r, intsD c] ∧ r.length = c.length ∧ 1 ≤ r.length ∧ r.length ≤ 1000 ∧ (∀ x ∈ r, x ≤ 3) ∧ ∀ x ∈ c, x ≤ 3) (fun ds z => ∃ (r c : List Int), ds = [intsD r, intsD c] ∧ z = .int (minL (List.zipWith on r c)))
theorem best_at {r c : List Int} {z : PyData} (h : ∃ (r' c' : List Int), [intsD r, intsD c] = [intsD r', intsD c'] ∧ z = .int (minL (List.zipWith on r' c'))) : z = .int (minL (List.zipWith on r c)) := by
  obtain ⟨a, b, e2, rfl⟩ := h
  simp only [List.cons.injEq, and_true] at e2
  rw [intsD_inj e2.1, intsD_inj e2.2]
theorem ok_best_way (T : Txt K mg) : FnOk P w K mg base CX0 2 T.A_best_way.f T.A_best_way.d ["row", "column"] (spBest K) := by
  refine T.A_best_way.F.ok sc_best_way (fun vs H Q E h => ?_) (fun cdv A outer s H vs Q E hr h => ?_)
  · obtain ⟨ds, hd, ⟨_, _, rfl, _⟩, _⟩ := h; exact hd.length
  · obtain ⟨ds, hd, ⟨r, c, rfl, hl, pos, few, hr3, hc3⟩, q⟩ := h
    refine ⟨_, ((pss_one (ps_ret (pe_callB (kMin (K := K)) (by rfl) T.n_min (by decide +kernel) (pa_cons (pe_lc (own := [("x", 2), ("y", 3)]) (g := gTup K 2 (gCons (gName 2) (gCons (gName 3) (gNil)))) (tt := tYes) rfl sc_best_way.nd (kiZip (K := K) (by rfl) T.n_zip (pa_cons (pv 0) (pa_cons (pv 1) pa_nil))) (blkOk_by (own := [("x", 2), ("y", 3)]) (N := ["row", "column", "x", "y"]) (sc := defScope s_best_way) (by decide +kernel)) (fun _ _ _ _ _ => (kgTup (K := K) rfl (pgs_cons (pg_name (i := 2) sc_best_way.nd rfl (.inl rfl)) (pgs_cons (pg_name (i := 3) sc_best_way.nd rfl (.inl rfl)) pgs_nil)))) (fun _ _ _ _ _ => pts_nil) (fun _ _ _ _ _ => (pe_call (ok_on T) (hr.mono (by decide)) (by rfl) T.A_on.g T.A_on.F.kp T.A_on.b .nil pass0 (pa_cons (pv 2) (pa_cons (pv 3) pa_nil))))) pa_nil))))), ?_⟩
    obtain ⟨x0, x1, rfl, h0, h1⟩ := hd.two
    obtain ⟨m1, m2⟩ := min_row (n := c.length) hl rfl (by omega) hr3 hc3
    have ez : zipD (r.map PyData.int) (c.map PyData.int) = (r.zip c).map fun p => .tuple [.int p.1, .int p.2] := by
      unfold zipD
      rw [List.zipWith_map, List.zip, List.map_zipWith]
    refine evs_retD (d := .int (minL (List.zipWith on r c))) (evd_min (ns := List.zipWith on r c) ((evl_map2 (f := fun d => match d with | .tuple [.int a, .int b] => .int (on a b) | _ => .none) (evi_zipT (eva_cons (evd_v 0 rfl h0) (eva_cons (evd_v 1 rfl h1) eva_nil))).same ?_ (fun d hd => ?_) fun a b x y H1 hd s dx dy => ?_).is ?_) m1 m2) fun v H1 s p => q _ v H1 s p ⟨r, c, rfl, rfl⟩
    · rw [ez]; simp; omega
    · rw [ez] at hd
      obtain ⟨p, _, rfl⟩ := List.mem_map.mp hd
      exact ⟨_, _, rfl⟩
    · rw [ez] at hd
      obtain ⟨p, _, e⟩ := List.mem_map.mp hd
      injection e with e
      simp only [List.cons.injEq, and_true] at e
      obtain ⟨rfl, rfl⟩ := e
      exact evd_callX (eva_cons (evd_v 2 rfl dx) (eva_cons (evd_v 3 rfl dy) eva_nil)) ⟨_, _, rfl⟩ fun r h => on_at rfl h
    · rw [ez, List.map_map, List.zip, List.map_zipWith, List.map_zipWith]
      rfl
/-- two square matrices -/
def spTimes (K : PySem.W.Frag) : Sp := spD K (fun ds => ∃ (n : Nat) (A B : Mat), ds = [matD A, matD B] ∧ Sq n A ∧ Sq n B ∧ 1 ≤ n ∧ n ≤ 100) (fun ds z => ∃ (n : Nat) (A B : Mat), ds = [matD A, matD B] ∧ Sq n A ∧ z = matD (times n A B))
theorem times_at {n : Nat} {A B : Mat} {z : PyData} (a : Sq n A) (h : ∃ (n' : Nat) (A' B' : Mat), [matD A, matD B] = [matD A', matD B'] ∧ Sq n' A' ∧ z = matD (times n' A' B')) : z = matD (times n A B) := by
  obtain ⟨n', a', b', e2, s', rfl⟩ := h
  simp only [List.cons.injEq, and_true] at e2
  have e3 := matD_inj e2.1
  subst e3
  rw [matD_inj e2.2]
  have : n' = n := s'.len.symm.trans a.len
  rw [this]
theorem ok_times (T : Txt K mg) : FnOk P w K mg base CX0 3 T.A_times.f T.A_times.d ["first", "second"] (spTimes K) := by
  refine T.A_times.F.ok sc_times (fun vs H Q E h => ?_) (fun cdv A outer s H vs Q E hr h => ?_)
  · obtain ⟨ds, hd, ⟨_, _, _, rfl, _⟩, _⟩ := h; exact hd.length
  · obtain ⟨ds, hd, ⟨n, A, B, rfl, a, b, n1, n100⟩, q⟩ := h
    refine ⟨_, ((pss_cons (ps_set (i := 2) sc_times.nd rfl (.inl rfl) (pe_callTy kRange1 (by rfl) T.n_range (by decide +kernel) (pa_cons (pe_callB (kLen (K := K)) (by rfl) T.n_len (by decide +kernel) (pa_cons (pv 0) pa_nil)) pa_nil)))
  (pss_cons (ps_set (i := 3) sc_times.nd rfl (.inr rfl) (pe_lc (own := [("q", 4)]) (g := gName 4) (tt := tYes) rfl sc_times.nd (kiRng (pv 2)) (blkOk_by (own := [("q", 4)]) (N := ["first", "second", "size", "columns", "q", "row", "column"]) (sc := defScope s_times) (by decide +kernel)) (fun _ _ _ _ _ => (pg_name (i := 4) sc_times.nd rfl (.inr rfl))) (fun _ _ _ _ _ => pts_nil) (fun _ _ _ _ _ => (pe_callTy (kTup (K := K)) (by rfl) T.n_tuple (by decide +kernel) (pa_cons (pe_lc (own := [("row", 5)]) (g := gName 5) (tt := tYes) rfl sc_times.nd (kiTup (K := K) (pv 1)) (blkOk_in (own := [("row", 5)]) (N := ["first", "second", "size", "columns", "q", "row", "column"]) (sc := defScope s_times) rfl (by decide +kernel)) (fun _ _ _ _ _ => (pg_name (i := 5) sc_times.nd rfl (.inl rfl))) (fun _ _ _ _ _ => pts_nil) (fun _ _ _ _ _ => (pe_ix (kIxT (K := K)) (pv 5) (pv 4) (fun _ _ => rfl)))) pa_nil)))))
  (pss_one (ps_ret (pe_callTy (kTup (K := K)) (by rfl) T.n_tuple (by decide +kernel) (pa_cons (pe_lc (own := [("row", 5)]) (g := gName 5) (tt := tYes) rfl sc_times.nd (kiTup (K := K) (pv 0)) (blkOk_by (own := [("row", 5)]) (N := ["first", "second", "size", "columns", "q", "row", "column"]) (sc := defScope s_times) (by decide +kernel)) (fun _ _ _ _ _ => (pg_name (i := 5) sc_times.nd rfl (.inr rfl))) (fun _ _ _ _ _ => pts_nil) (fun _ _ _ _ _ => (pe_callTy (kTup (K := K)) (by rfl) T.n_tuple (by decide +kernel) (pa_cons (pe_lc (own := [("column", 6)]) (g := gName 6) (tt := tYes) rfl sc_times.nd (kiList (K := K) (pv 3)) (blkOk_in (own := [("column", 6)]) (N := ["first", "second", "size", "columns", "q", "row", "column"]) (sc := defScope s_times) rfl (by decide +kernel)) (fun _ _ _ _ _ => (pg_name (i := 6) sc_times.nd rfl (.inl rfl))) (fun _ _ _ _ _ => pts_nil) (fun _ _ _ _ _ => (pe_call (ok_best_way T) (hr.mono (by decide)) (by rfl) T.A_best_way.g T.A_best_way.F.kp T.A_best_way.b .nil pass0 (pa_cons (pv 5) (pa_cons (pv 6) pa_nil))))) pa_nil)))) pa_nil))))))), ?_⟩
    obtain ⟨x0, x1, rfl, h0, h1⟩ := hd.two
    refine evq_range (K := K) (n := n) (evd_is (evd_lenT (evd_v 0 rfl h0)) (by rw [List.length_map, a.len])) fun ra H1 _ s1 e1 => ?_
    have hB : ∀ s ∈ B, s.length = n := b.row
    refine evq_setL (K := K) (evl_mapG (l := List.range n) (g := fun q => .int (q : Nat)) (f := fun q => intsD (colB B q)) (evi_rng (i := 2) rfl e1 (by omega)).same (by simp; omega) (fun _ _ _ _ e => by injection e with e; rw [Int.ofNat.inj e]) fun q x H2 hq s2 dx => ?_) fun cp cxs H3 _ s3 e3 d3 => ?_
    · have lq := List.mem_range.mp hq
      refine evd_is (evd_tupleL (evl_mapG (l := B) (g := intsD) (f := fun s => .int (s.getD q 3)) (evi_tup (evd_v 1 rfl ((h1.mono s1).mono s2))).same (by rw [b.len]; omega) (fun _ _ _ _ e => by rw [intsD_inj e]) fun s y H4 hs s4 dy => ?_)) ?_
      · refine evd_ixT (i := q) (evd_v 5 rfl dy) (evd_v 4 rfl (dx.mono s4)) ?_
        rw [List.getElem?_map, b.colget lq hs]; rfl
      · unfold intsD colB
        rw [List.map_map]; rfl
    have h0' := h0.mono (s1.trans s3)
    refine evs_retD (d := matD (times n A B)) (evd_is (evd_tupleL (evl_mapG (l := A) (g := intsD) (f := fun r => intsD ((List.range n).map fun q => minL (List.zipWith on r (colB B q)))) (evi_tup (evd_v 0 rfl h0')).same (by rw [a.len]; omega) (fun _ _ _ _ e => by rw [intsD_inj e]) fun r x H4 hr s4 dx => ?_)) ?_) fun v H5 s5 p => q _ v H5 ((s1.trans s3).trans s5) p ⟨n, A, B, rfl, a, rfl⟩
    · have lr := a.row r hr
      refine evd_is (evd_tupleL (evl_mapG (l := List.range n) (g := fun q => intsD (colB B q)) (f := fun q => .int (minL (List.zipWith on r (colB B q)))) (evi_listS (p := cp) (xs := cxs) (.inl (.inl (s4 _ _ e3))) (d3.mono s4) (evr_v 3 rfl)) (by simp; omega) (fun q _ q' _ e => by rw [intsD_inj e]) fun q y H6 hq s6 dy => ?_)) ?_
      · refine evd_callX (eva_cons (evd_v 5 rfl (dx.mono s6)) (eva_cons (evd_v 6 rfl dy) eva_nil)) ⟨r, colB B q, rfl, by rw [lr, colB_len b], by omega, by omega, fun x hx => (a.hi r hr x hx).2, fun x hx => ?_⟩ fun z h => best_at h
        obtain ⟨s, hs, rfl⟩ := List.mem_map.mp hx
        exact (b.hi s hs _ (List.mem_of_getElem? (b.colget (List.mem_range.mp hq) hs))).2
      · unfold intsD
        rw [List.map_map]; rfl
    · rw [← times_code a b]
      unfold matD
      rw [List.map_map]; rfl
end
end Kw

set_option maxRecDepth 100000
set_option maxHeartbeats 2000000
/-! classes and their matrices, further -/
namespace Kw
open PySem PySem.Spec PyProof.Rows L2 KD Mx
section
variable {P : Program} {w : World} {K : PySem.W.Frag} {mg : Str → Option Value} {base : Heap}
def spSq (K : PySem.W.Frag) (f : Nat → Mat → PyData) : Sp := spD K (fun ds => ∃ (n : Nat) (A : Mat), ds = [matD A] ∧ Sq n A ∧ 1 ≤ n ∧ n ≤ 100) (fun ds z => ∃ (n : Nat) (A : Mat), ds = [matD A] ∧ Sq n A ∧ z = f n A)
theorem sq_at {f : Nat → Mat → PyData} {n : Nat} {A : Mat} {z : PyData} (a : Sq n A) (h : ∃ (n' : Nat) (A' : Mat), [matD A] = [matD A'] ∧ Sq n' A' ∧ z = f n' A') : z = f n A := by
  obtain ⟨n', a', e2, s', rfl⟩ := h
  simp only [List.cons.injEq, and_true] at e2
  have e3 := matD_inj e2
  subst e3
  have : n' = n := s'.len.symm.trans a.len
  rw [this]
noncomputable def ownB (n : Nat) (A : Mat) : Bool := decide (times n A A = A)
theorem ok_is_own_square (T : Txt K mg) : FnOk P w K mg base CX0 4 T.A_is_own_square.f T.A_is_own_square.d ["matrix"] (spSq K fun n A => .bool (ownB n A)) := by
  refine T.A_is_own_square.F.ok sc_is_own_square (fun vs H Q E h => ?_) (fun cdv A outer s H vs Q E hr h => ?_)
  · obtain ⟨ds, hd, ⟨_, _, rfl, _⟩, _⟩ := h; exact hd.length
  · obtain ⟨ds, hd, ⟨n, A, rfl, a, n1, n2⟩, q⟩ := h
    refine ⟨_, ((pss_one (ps_ret (pe_cmpR (kEqD (K := K) (hu64 hr)) (pe_call (ok_times T) (hr.mono (by decide)) (by rfl) T.A_times.g T.A_times.F.kp T.A_times.b .nil pass0 (pa_cons (pv 0) (pa_cons (pv 0) pa_nil))) (pv 0) (nomark _))))), ?_⟩
    obtain ⟨x0, rfl, h0⟩ := hd.single
    have v0 : EvD K (tVar 0) (L2.start ["matrix"] [x0]) H (matD A) := evd_v 0 rfl h0
    refine evs_retD (d := .bool (ownB n A)) (evd_eqG (evd_callX (d := matD (times n A A)) (eva_cons v0 (eva_cons v0 eva_nil)) ⟨n, A, A, rfl, a, a, n1, n2⟩ fun z h => times_at a h) v0 (good_mat _) (good_mat _) (by decide) (by decide) ?_) fun v H1 s p => q _ v H1 s p ⟨n, A, rfl, a, rfl⟩
    unfold ownB
    rw [decide_eq_true_eq]
    exact ⟨fun e => by rw [e], matD_inj⟩
def f_held : List PyData → Option PyData
  | [.int x] => some (.int (held x))
  | _ => none
theorem ok_held (T : Txt K mg) : FnOk P w K mg base CX0 1 T.A_held.f T.A_held.d ["x"] (spF K f_held) := by
  refine T.A_held.F.ok sc_held (fun vs H Q E h => spF_len (n := 1) (fun ds hp => ?_) h) (fun cdv A outer s H vs Q E hr h => ?_)
  · unfold f_held at hp
    split at hp <;> first | rfl | cases hp
  · obtain ⟨ds, hd, hp, q⟩ := h
    refine ⟨_, ((pss_one (ps_ret (pe_ifExp (pt_cmpR op_eq (pv 0) (pe_glob (v := .int 1) rfl T.v_PAID ⟨_, rfl⟩) (nomark _)) (pe_glob (v := .int 2) rfl T.v_GROWING ⟨_, rfl⟩) (pv 0))))), ?_⟩
    obtain ⟨x, rfl⟩ : ∃ x, ds = [.int x] := by
      unfold f_held at hp
      split at hp <;> first | exact ⟨_, rfl⟩ | cases hp
    obtain ⟨x0, rfl, h0⟩ := hd.single
    refine evs_ret (P := fun r => r = .int (held x)) (evp_if (evb_test (evd_eq (b := decide (x = 1)) (evd_v 0 rfl h0) (evd_int (K := K)) rfl)) (fun hb => ?_) fun hb => ?_) fun v H1 r s p e => q r v H1 s p (by rw [e]; rfl)
    · exact evd_is (evd_int (K := K)) (by rw [held, if_pos (of_decide_eq_true hb)])
    · exact evd_is (evd_v (K := K) 0 rfl h0) (by rw [held, if_neg (of_decide_eq_false hb)])
def f_cls : List PyData → Option PyData
  | [.int x] => some (.int (cls x))
  | _ => none
theorem ok_class_of_cost (T : Txt K mg) : FnOk P w K mg base CX0 1 T.A_class_of_cost.f T.A_class_of_cost.d ["cost"] (spF K f_cls) := by
  refine T.A_class_of_cost.F.ok sc_class_of_cost (fun vs H Q E h => spF_len (n := 1) (fun ds hp => ?_) h) (fun cdv A outer s H vs Q E hr h => ?_)
  · unfold f_cls at hp
    split at hp <;> first | rfl | cases hp
  · obtain ⟨ds, hd, hp, q⟩ := h
    refine ⟨_, ((pss_one (ps_ret (pe_callB (kMin2) (by rfl) T.n_min (by decide +kernel) (pa_cons (pv 0) (pa_cons (pe_glob (v := .int 1) rfl T.v_PAID ⟨_, rfl⟩) pa_nil)))))), ?_⟩
    obtain ⟨x, rfl⟩ : ∃ x, ds = [.int x] := by
      unfold f_cls at hp
      split at hp <;> first | exact ⟨_, rfl⟩ | cases hp
    obtain ⟨x0, rfl, h0⟩ := hd.single
    cases h0
    exact ⟨_, rfl, x, 1, rfl, q _ _ H (Same.refl _) (.int _) rfl⟩
def spUnit (K : PySem.W.Frag) : Sp := spD K (fun ds => ∃ n : Nat, ds = [.int (n : Nat)] ∧ n ≤ 100) (fun ds z => ∃ n : Nat, ds = [.int (n : Nat)] ∧ z = matD (unit n))
theorem unit_at {n : Nat} {z : PyData} (h : ∃ n' : Nat, [PyData.int (n : Nat)] = [.int (n' : Nat)] ∧ z = matD (unit n')) : z = matD (unit n) := by
  obtain ⟨n', e, rfl⟩ := h
  simp only [List.cons.injEq, and_true, PyData.int.injEq] at e
  rw [Int.ofNat.inj e]
theorem ok_unit (T : Txt K mg) : FnOk P w K mg base CX0 1 T.A_unit.f T.A_unit.d ["size"] (spUnit K) := by
  refine T.A_unit.F.ok sc_unit (fun vs H Q E h => ?_) (fun cdv A outer s H vs Q E hr h => ?_)
  · obtain ⟨ds, hd, ⟨_, rfl, _⟩, _⟩ := h; exact hd.length
  · obtain ⟨ds, hd, ⟨n, rfl, hn⟩, q⟩ := h
    refine ⟨_, ((pss_one (ps_ret (pe_callTy (kTup (K := K)) (by rfl) T.n_tuple (by decide +kernel) (pa_cons (pe_lc (own := [("p", 1)]) (g := gName 1) (tt := tYes) rfl sc_unit.nd (pi_range1 rfl T.n_range (pa_cons (pv 0) pa_nil)) (blkOk_by (own := [("p", 1)]) (N := ["size", "p", "q"]) (sc := defScope s_unit) (by decide +kernel)) (fun _ _ _ _ _ => (pg_name (i := 1) sc_unit.nd rfl (.inr rfl))) (fun _ _ _ _ _ => pts_nil) (fun _ _ _ _ _ => (pe_callTy (kTup (K := K)) (by rfl) T.n_tuple (by decide +kernel) (pa_cons (pe_lc (own := [("q", 2)]) (g := gName 2) (tt := tYes) rfl sc_unit.nd (pi_range1 rfl T.n_range (pa_cons (pv 0) pa_nil)) (blkOk_in (own := [("q", 2)]) (N := ["size", "p", "q"]) (sc := defScope s_unit) rfl (by decide +kernel)) (fun _ _ _ _ _ => (pg_name (i := 2) sc_unit.nd rfl (.inl rfl))) (fun _ _ _ _ _ => pts_nil) (fun _ _ _ _ _ => (pe_ifExp (pt_cmpR op_eq (pv 1) (pv 2) (nomark _)) (pe_glob (v := .int 0) rfl T.v_FREE ⟨_, rfl⟩) (pe_glob (v := .int 3) rfl T.v_NONE ⟨_, rfl⟩)))) pa_nil)))) pa_nil))))), ?_⟩
    obtain ⟨x0, rfl, h0⟩ := hd.single
    refine evs_retD (d := matD (unit n)) (evd_is (evd_tupleL (evl_mapG (l := List.range n) (g := fun q => .int (q : Nat)) (f := fun p => intsD ((List.range n).map fun q => if p = q then 0 else 3)) (evi_range1 (evd_v 0 rfl h0) (by omega)).same (by simp; omega) (fun _ _ _ _ e => by injection e with e; rw [Int.ofNat.inj e]) fun p x H1 hp s1 dx => ?_)) ?_) fun v H1 s p => q _ v H1 s p ⟨n, rfl, rfl⟩
    · refine evd_is (evd_tupleL (evl_mapG (l := List.range n) (g := fun q => .int (q : Nat)) (f := fun q => .int (if p = q then 0 else 3)) (evi_range1 (evd_v 0 rfl (h0.mono s1)) (by omega)).same (by simp; omega) (fun _ _ _ _ e => by injection e with e; rw [Int.ofNat.inj e]) fun q y H2 hq s2 dy => ?_)) ?_
      · refine evp_if (b := decide (p = q)) (evb_is (evb_test (evd_eq (evd_v 1 rfl (dx.mono s2)) (evd_v 2 rfl dy) rfl)) (by by_cases c : p = q <;> simp [c] <;> omega)) (fun hb => ?_) fun hb => ?_
        · exact evd_is (evd_int (K := K)) (by rw [if_pos (of_decide_eq_true hb)])
        · exact evd_is (evd_int (K := K)) (by rw [if_neg (of_decide_eq_false hb)])
      · unfold intsD
        rw [List.map_map]; rfl
    · unfold matD unit ofFn
      rw [List.map_map]; rfl
theorem ok_pumped (T : Txt K mg) : FnOk P w K mg base CX0 4 T.A_pumped.f T.A_pumped.d ["matrix"] (spSq K fun n A => matD (pumped n A)) := by
  refine T.A_pumped.F.ok sc_pumped (fun vs H Q E h => ?_) (fun cdv A outer s H vs Q E hr h => ?_)
  · obtain ⟨ds, hd, ⟨_, _, rfl, _⟩, _⟩ := h; exact hd.length
  · obtain ⟨ds, hd, ⟨n, A, rfl, a, n1, n2⟩, q⟩ := h
    refine ⟨_, ((pss_cons (ps_set (i := 1) sc_pumped.nd rfl (.inr rfl) (pe_callTy kRange1 (by rfl) T.n_range (by decide +kernel) (pa_cons (pe_callB (kLen (K := K)) (by rfl) T.n_len (by decide +kernel) (pa_cons (pv 0) pa_nil)) pa_nil)))
  (pss_cons (ps_setLc (i := 2) (own := [("p", 3)]) (g := gName 3) (tt := tYes) rfl sc_pumped.nd rfl rfl (sw_true rfl rfl rfl (by decide +kernel)) (kiRng (pv 1)) (blkOk_by (own := [("p", 3)]) (N := ["matrix", "size", "rows", "p", "r"]) (sc := defScope s_pumped) (by decide +kernel)) (fun _ _ _ _ _ => (pg_name (i := 3) sc_pumped.nd rfl (.inr rfl))) (fun _ _ _ _ _ => pts_nil) (fun _ _ _ _ _ => (pe_callTy (kTup (K := K)) (by rfl) T.n_tuple (by decide +kernel) (pa_cons (pe_lc (own := [("r", 4)]) (g := gName 4) (tt := tYes) rfl sc_pumped.nd (kiRng (pv 1)) (blkOk_in (own := [("r", 4)]) (N := ["matrix", "size", "rows", "p", "r"]) (sc := defScope s_pumped) rfl (by decide +kernel)) (fun _ _ _ _ _ => (pg_name (i := 4) sc_pumped.nd rfl (.inl rfl))) (fun _ _ _ _ _ => pts_nil) (fun _ _ _ _ _ => (pe_call (ok_on T) (hr.mono (by decide)) (by rfl) T.A_on.g T.A_on.F.kp T.A_on.b .nil pass0 (pa_cons (pe_ix (kIxT (K := K)) (pe_ix (kIxT (K := K)) (pv 0) (pv 3) (fun _ _ => rfl)) (pv 4) (fun _ _ => rfl)) (pa_cons (pe_call (ok_held T) (hr.mono (by decide)) (by rfl) T.A_held.g T.A_held.F.kp T.A_held.b .nil pass0 (pa_cons (pe_ix (kIxT (K := K)) (pe_ix (kIxT (K := K)) (pv 0) (pv 4) (fun _ _ => rfl)) (pv 4) (fun _ _ => rfl)) pa_nil)) pa_nil))))) pa_nil))))
  (pss_one (ps_ret (pe_call (ok_times T) (hr.mono (by decide)) (by rfl) T.A_times.g T.A_times.F.kp T.A_times.b .nil pass0 (pa_cons (pe_callTy (kTup (K := K)) (by rfl) T.n_tuple (by decide +kernel) (pa_cons (pv 2) pa_nil)) (pa_cons (pv 0) pa_nil)))))))), ?_⟩
    obtain ⟨x0, rfl, h0⟩ := hd.single
    refine evq_range (K := K) (n := n) (evd_is (evd_lenT (evd_v 0 rfl h0)) (by rw [List.length_map, a.len])) fun ra H1 _ s1 e1 => ?_
    refine evq_setL (K := K) (evl_mapG (l := List.range n) (g := fun q => .int (q : Nat)) (f := fun p => intsD ((List.range n).map fun r => on (ent A p r) (held (ent A r r)))) (evi_rng (i := 1) rfl e1 (by omega)).same (by simp; omega) (fun _ _ _ _ e => by injection e with e; rw [Int.ofNat.inj e]) fun p x H2 hp s2 dx => ?_) fun cp cxs H3 _ s3 e3 d3 => ?_
    · have lp := List.mem_range.mp hp
      refine evd_is (evd_tupleL (evl_mapG (l := List.range n) (g := fun q => .int (q : Nat)) (f := fun r => .int (on (ent A p r) (held (ent A r r)))) (evi_rng (i := 1) rfl (s2 _ _ e1) (by omega)).same (by simp; omega) (fun _ _ _ _ e => by injection e with e; rw [Int.ofNat.inj e]) fun r y H4 hr s4 dy => ?_)) ?_
      · have lr := List.mem_range.mp hr
        have h04 := h0.mono (s1.trans (s2.trans s4))
        have g : ∀ {te tf : TE} {p q : Nat} {σ : L2.St} (hσ : σ[0]? = some (some x0)) (lp : p < n) (lq : q < n) (h1 : EvD K te σ H4 (.int (p : Nat))) (h2 : EvD K tf σ H4 (.int (q : Nat))), EvD K (tOp (rIxT K) (tOp (rIxT K) (tVar 0) te) tf) σ H4 (.int (ent A p q)) := fun hσ lp lq h1 h2 => by
          obtain ⟨row, hr1, hr2⟩ := row_get a lp lq
          exact evd_ixT (ds := row.map .int) (evd_ixT (ds := A.map intsD) (evd_v 0 hσ h04) h1 (by rw [List.getElem?_map, hr1]; rfl)) h2 (by rw [List.getElem?_map, hr2]; rfl)
        have y4 := evd_v (K := K) (σ := (wipe ((wipe ([some x0, some (.ref ra), none, none, none] : L2.St) [3]).set 3 (some x)) [4]).set 4 (some y)) 4 rfl dy
        exact evd_callX (eva_cons (g rfl lp lr (evd_v 3 rfl (dx.mono s4)) (evd_v 4 rfl dy)) (eva_cons (evd_callF (eva_cons (g rfl lr lr (evd_v 4 rfl dy) (evd_v 4 rfl dy)) eva_nil) rfl) eva_nil)) ⟨_, _, rfl⟩ fun z h => on_at rfl h
      · unfold intsD
        rw [List.map_map]; rfl
    refine evs_retD (d := matD (pumped n A)) (evd_callX (eva_cons (evd_is (evd_tupleLs (.inl (.inl e3)) d3 (evr_v 2 rfl)) (show _ = matD (pumpRows n A) by unfold matD pumpRows ofFn; rw [List.map_map]; rfl)) (eva_cons (evd_v 0 rfl (h0.mono (s1.trans s3))) eva_nil)) ⟨n, _, A, rfl, sq_pumpRows a, a, n1, n2⟩ fun z h => times_at (sq_pumpRows a) h) fun v H4 s4 p4 => q _ v H4 ((s1.trans s3).trans s4) p4 ⟨n, A, rfl, a, rfl⟩
end
end Kw

set_option maxRecDepth 100000
set_option maxHeartbeats 2000000
/-! matrices_of_letters -/
namespace Kw
open PySem PySem.Spec PyProof.Rows L2 KD Mx
theorem gtup4_d {K : PySem.W.Frag} {H : Hp} {σ : L2.St} {v : V} {i j k l : Nat} {a b c d : PyData} {Q : L2.St → Hp → Prop} (h : Dq K H v (.tuple [a, b, c, d])) (q : ∀ x y z u, Dq K H x a → Dq K H y b → Dq K H z c → Dq K H u d → Q ((((σ.set i (some x)).set j (some y)).set k (some z)).set l (some u)) H) :
    gTup K 4 (gCons (gName i) (gCons (gName j) (gCons (gName k) (gCons (gName l) gNil)))) v σ H Q := by
  obtain ⟨ad, xs, rfl, h1, h2⟩ := h.tupE
  obtain ⟨x, y, z, u, rfl, k1, k2, k3, k4⟩ := h2.four
  exact ⟨ad, _, rfl, h1, rfl, x, _, rfl, y, _, rfl, z, _, rfl, u, _, rfl, rfl, q x y z u k1 k2 k3 k4⟩
theorem range_set {n q : Nat} {f : Nat → Int} {v : Int} (hq : q < n) : (((List.range n).map f).map V.int).set q (.int v) = ((List.range n).map fun q' => if q' = q then v else f q').map V.int := by
  refine List.ext_getElem? fun i => ?_
  by_cases c : i = q
  · subst c
    rw [List.getElem?_set_self (by simpa using hq)]
    rw [List.getElem?_map, range_at hq]
    simp
  · rw [List.getElem?_set_ne (Ne.symm c)]
    simp only [List.getElem?_map]
    by_cases l : i < n
    · rw [List.getElem?_range l]
      simp [c]
    · rw [List.getElem?_eq_none (by simp; omega)]
      rfl
theorem evq_setN {K : PySem.W.Frag} {H : Hp} {σ : L2.St} {te : TE} {u : TS} {D : Ends} {N : Addr → List Addr → Hp → Prop} {i : Nat} (h : EvN N te σ H) (q : ∀ a own H1, Same H H1 → N a own H1 → (∀ b ∈ own, H b = none) → own.Nodup → u D (σ.set i (some (.ref a))) H1) : tSeq (tAsg te (gName i)) u D σ H :=
  h H (Same.refl _) _ fun a own H1 s n _ f nd => q a own H1 s n f nd
theorem take_next {α : Type} {l : List α} {i : Nat} {m : α} (h : l[i]? = some m) : l.take (i + 1) = l.take i ++ [m] := by rw [List.take_add_one, h]; rfl
def gridL (n : Nat) (mv : List Mx.Move) (a p : Nat) : List Int := (List.range n).map fun q => entL mv a p q
section
variable {P : Program} {w : World} {K : PySem.W.Frag} {mg : Str → Option Value} {base : Heap}
def spMats (K : PySem.W.Frag) : Sp := fun vs H Q _ => ∃ (x : V) (lt : List Str) (M : Mach), vs = [x] ∧ Dq K H x (machD lt M) ∧ MOk lt M ∧
  ∀ p xs H', H p = none → Same H H' → H' p = some (.lst xs) → DqAll K H' xs ((List.range lt.length).map fun a => matD (letM M a)) → Q (.ref p) H'
theorem ok_matrices_of_letters (T : Txt K mg) : FnOk P w K mg base CX0 2 T.A_matrices_of_letters.f T.A_matrices_of_letters.d ["machine"] (spMats K) := by
  refine T.A_matrices_of_letters.F.ok sc_matrices_of_letters (fun vs H Q E h => ?_) (fun cdv A outer s H vs Q E hr h => ?_)
  · obtain ⟨_, _, _, rfl, _⟩ := h; rfl
  · obtain ⟨x0, lt, M, rfl, hx, ok, q⟩ := h
    refine ⟨_, ((pss_cons (ps_asg (pv 0) (kgTup (K := K) rfl (pgs_cons (pg_name (i := 1) sc_matrices_of_letters.nd rfl (.inl rfl)) (pgs_cons (pg_name (i := 2) sc_matrices_of_letters.nd rfl (.inr rfl)) (pgs_cons (pg_name (i := 3) sc_matrices_of_letters.nd rfl (.inl rfl)) (pgs_cons (pg_name (i := 4) sc_matrices_of_letters.nd rfl (.inl rfl)) (pgs_cons (pg_name (i := 5) sc_matrices_of_letters.nd rfl (.inl rfl)) pgs_nil)))))))
  (pss_cons (ps_setLc (i := 6) (own := [("letter", 8)]) (g := gName 8) (tt := tYes) rfl sc_matrices_of_letters.nd rfl rfl (sw_true rfl rfl rfl (by decide +kernel)) (kiTup (K := K) (pv 1)) (blkOk_by (own := [("letter", 8)]) (N := ["machine", "letters", "states", "starts", "ends", "moves", "found", "p", "letter", "cost", "q", "rows", "row"]) (sc := defScope s_matrices_of_letters) (by decide +kernel)) (fun _ _ _ _ _ => (pg_name (i := 8) sc_matrices_of_letters.nd rfl (.inl rfl))) (fun _ _ _ _ _ => pts_nil) (fun _ _ _ _ _ => (pe_lc (own := [("p", 7)]) (g := gName 7) (tt := tYes) rfl sc_matrices_of_letters.nd (pi_range1 rfl T.n_range (pa_cons (pv 2) pa_nil)) (blkOk_in (own := [("p", 7)]) (N := ["machine", "letters", "states", "starts", "ends", "moves", "found", "p", "letter", "cost", "q", "rows", "row"]) (sc := defScope s_matrices_of_letters) rfl (by decide +kernel)) (fun _ _ _ _ _ => (pg_name (i := 7) sc_matrices_of_letters.nd rfl (.inl rfl))) (fun _ _ _ _ _ => pts_nil) (fun _ _ _ _ _ => (pe_op op_rep (pe_lst (pa_cons (pe_glob (v := .int 3) rfl T.v_NONE ⟨_, rfl⟩) pa_nil)) (pv 2))))))
  (pss_cons (ps_for PassesOwn.never rfl (kiTup (K := K) (pv 5)) (kgTup (K := K) rfl (pgs_cons (pg_name (i := 7) sc_matrices_of_letters.nd rfl (.inl rfl)) (pgs_cons (pg_name (i := 8) sc_matrices_of_letters.nd rfl (.inl rfl)) (pgs_cons (pg_name (i := 9) sc_matrices_of_letters.nd rfl (.inl rfl)) (pgs_cons (pg_name (i := 10) sc_matrices_of_letters.nd rfl (.inl rfl)) pgs_nil)))))
    (pss_one (ps_asg (pe_callB (kMin2) (by rfl) T.n_min (by decide +kernel) (pa_cons (pe_ix (kIxL (K := K)) (pe_ix (kIxL (K := K)) (pe_ix (kIxL (K := K)) (pv 6) (pv 8) (fun _ _ => rfl)) (pv 7) (fun _ _ => rfl)) (pv 10) (fun _ _ => rfl)) (pa_cons (pe_call (ok_class_of_cost T) (hr.mono (by decide)) (by rfl) T.A_class_of_cost.g T.A_class_of_cost.F.kp T.A_class_of_cost.b .nil pass0 (pa_cons (pv 9) pa_nil)) pa_nil))) (pg_sub (pe_ix (kIxL (K := K)) (pe_ix (kIxL (K := K)) (pv 6) (pv 8) (fun _ _ => rfl)) (pv 7) (fun _ _ => rfl)) (pv 10) set_list))))
  (pss_one (ps_ret (pe_lc (own := [("rows", 11)]) (g := gName 11) (tt := tYes) rfl sc_matrices_of_letters.nd (kiList (K := K) (pv 6)) (blkOk_by (own := [("rows", 11)]) (N := ["machine", "letters", "states", "starts", "ends", "moves", "found", "p", "letter", "cost", "q", "rows", "row"]) (sc := defScope s_matrices_of_letters) (by decide +kernel)) (fun _ _ _ _ _ => (pg_name (i := 11) sc_matrices_of_letters.nd rfl (.inl rfl))) (fun _ _ _ _ _ => pts_nil) (fun _ _ _ _ _ => (pe_callTy (kTup (K := K)) (by rfl) T.n_tuple (by decide +kernel) (pa_cons (pe_lc (own := [("row", 12)]) (g := gName 12) (tt := tYes) rfl sc_matrices_of_letters.nd (kiList (K := K) (pv 11)) (blkOk_in (own := [("row", 12)]) (N := ["machine", "letters", "states", "starts", "ends", "moves", "found", "p", "letter", "cost", "q", "rows", "row"]) (sc := defScope s_matrices_of_letters) rfl (by decide +kernel)) (fun _ _ _ _ _ => (pg_name (i := 12) sc_matrices_of_letters.nd rfl (.inl rfl))) (fun _ _ _ _ _ => pts_nil) (fun _ _ _ _ _ => (pe_callTy (kTup (K := K)) (by rfl) T.n_tuple (by decide +kernel) (pa_cons (pv 12) pa_nil)))) pa_nil)))))))))), ?_⟩
    have n12 := ok.n12
    have fw := ok.few
    have l6 := ok.lets.few
    refine evq_tup5 (evd_v 0 rfl hx) fun y1 y2 y3 y4 y5 H1 s1 d1 d2 d3 d4 d5 => ?_
    cases d2
    refine evq_setN (K := K) (evn_lc (K := K) (N := fun _ => LN (fun _ => IN (List.replicate M.n 3)) M.n) (fun _ => stay_LN (fun _ => stay_IN _) _) (fun _ => there_LN (fun _ => there_IN _) _) (evi_tup (evd_v 1 rfl d1)).same (by rw [List.length_map]; omega) fun j d x H2 hj s2 dx => ?_) fun F own H2 s2 nF fr nd => ?_
    · have := evn_lc (K := K) (te := tOp rRep (tLst (tCons (tC (.int 3)) tNil)) (tVar 2)) (i := 7) (σ := ((wipe ([some x0, some y1, some (.int (M.n : Nat)), some y3, some y4, some y5, none, none, none, none, none, none, none] : L2.St) [8]).set 8 (some x))) (H := H2) (N := fun _ => IN (List.replicate M.n 3)) (fun _ => stay_IN _) (fun _ => there_IN _) (evi_range1 (n := M.n) (evd_v 2 rfl (.int _)) (by omega)).same (by simp [nats]; omega) fun j d x H3 hj s3 dx => evn_rep (K := K) evd_int (evd_v (K := K) 2 rfl (.int _)) (by omega)
      rwa [show (nats M.n).length = M.n by simp [nats]] at this
    · have el : (lt.map PyData.str).length = lt.length := List.length_map ..
      rw [el] at nF
      obtain ⟨A', B', G, Ap⟩ := grid_of nF fr nd
      have G0 : Grid (gridL M.n []) lt.length M.n F A' B' H2 := ⟨G.top, G.mid, fun a p ha hp => by
        rw [G.row a p ha hp]
        congr 2
        refine congrArg (List.map V.int) ?_
        refine List.ext_getElem? fun i => ?_
        by_cases c : i < M.n
        · rw [gridL, range_at c, List.getElem?_replicate, if_pos c]; rfl
        · rw [List.getElem?_eq_none (by simp; omega), List.getElem?_eq_none (by simp [gridL]; omega)]⟩
      refine evq_forG (K := K) (evi_tup (evd_v 5 rfl (d5.mono s2))) (fun Hb i σ' H' => ∃ s7 s8 s9 s10 : Option V, σ' = [some x0, some y1, some (.int (M.n : Nat)), some y3, some y4, some y5, some (.ref F), s7, s8, s9, s10, none, none] ∧ Same H1 H' ∧ Kp Hb H' ∧ Grid (gridL M.n (M.mv.take i)) lt.length M.n F A' B' H') ?_ (fun H3 s3 => ⟨_, _, _, _, rfl, s2.trans s3, .refl _, G0.same s3⟩) (fun H3 i d σ' H' x H'' s3 hd pv s4 dx => ?_) (fun H3 σ' H' s3 pv => ?_)
      · intro Hb i σ' H' _ _ pv
        obtain ⟨_, _, _, _, _, _, kp, _⟩ := pv
        exact kp
      · obtain ⟨s7, s8, s9, s10, rfl, sH, kp, G'⟩ := pv
        obtain ⟨m, hm, rfl⟩ : ∃ m, M.mv[i]? = some m ∧ d = tupI (moveL m) := by
          rw [List.getElem?_map, List.getElem?_map] at hd
          cases e : M.mv[i]? with
          | none => rw [e] at hd; cases hd
          | some m => rw [e] at hd; exact ⟨m, rfl, (Option.some.inj hd).symm⟩
        obtain ⟨p, a, c, t⟩ := m
        obtain ⟨o1, o2, o3, o4⟩ := ok.ok.mv p a c t (List.mem_of_getElem? hm)
        have G'' := G'.same s4
        refine gtup4_d dx fun u1 u2 u3 u4 e1 e2 e3 e4 => ?_
        cases e1; cases e2; cases e3; cases e4
        have rowE := G''.row a p o2 o1
        refine grid_row (σ := [some x0, some y1, some (.int (M.n : Nat)), some y3, some y4, some y5, some (.ref F), some (.int (p : Nat)), some (.int (a : Nat)), some (.int c), some (.int (t : Nat)), none, none]) G'' o2 o1 rfl rfl rfl ?_
        refine ⟨_, rfl, B' a p, _, _, .int (entL (M.mv.take i) a p t), rfl, rfl, .inl (.inl rowE), atI_nat (by rw [List.getElem?_map, gridL, range_at o4]; rfl), ?_⟩
        refine (evd_callF (f := f_cls) (ds := [.int c]) (r := .int (cls c)) (eva_cons (evd_v (K := K) 9 rfl (.int c)) eva_nil) rfl).run (Same.refl _) fun v H5 s5 p5 => ?_
        cases p5
        have G5 := G''.same s5
        refine ⟨_, _, rfl, ?_⟩
        refine grid_row (σ := [some x0, some y1, some (.int (M.n : Nat)), some y3, some y4, some y5, some (.ref F), some (.int (p : Nat)), some (.int (a : Nat)), some (.int c), some (.int (t : Nat)), none, none]) G5 o2 o1 rfl rfl rfl ?_
        have row5 := G5.row a p o2 o1
        refine ⟨_, rfl, B' a p, _, t, t, rfl, rfl, row5, ?_, ?_⟩
        · rw [List.length_map, gridL, List.length_map, List.length_range]
          exact Evl.ixN_nat o4
        · have es : ((gridL M.n (M.mv.take i) a p).map V.int).set t (.int (if cls c < entL (M.mv.take i) a p t then cls c else entL (M.mv.take i) a p t)) = ((List.range M.n).map fun q' => if q' = t then (if cls c < entL (M.mv.take i) a p t then cls c else entL (M.mv.take i) a p t) else entL (M.mv.take i) a p q').map V.int := range_set o4
          rw [es]
          refine ⟨_, _, _, _, rfl, Ap.mut (sH.trans (s4.trans s5)) o2 o1, (kp.trans (.of (s4.trans s5))).trans (.updL row5), G5.set Ap o2 o1 fun a' p' ha' hp' => ?_⟩
          rw [take_next hm]
          unfold gridL
          by_cases cc : a' = a ∧ p' = p
          · obtain ⟨rfl, rfl⟩ := cc
            rw [if_pos ⟨rfl, rfl⟩]
            refine List.map_congr_left fun q' hq' => ?_
            rw [entL_snoc]
            by_cases c3 : q' = t
            · subst c3; simp
            · rw [if_neg c3, if_neg (by simp only [true_and]; exact fun e => c3 e.symm)]
          · rw [if_neg cc]
            refine List.map_congr_left fun q' hq' => ?_
            rw [entL_snoc, if_neg (by simp only; exact fun e => cc ⟨e.2.1.symm, e.1.symm⟩)]
      · obtain ⟨s7, s8, s9, s10, rfl, sH, kp, G'⟩ := pv
        rw [show (((M.mv.map moveL).map tupI).length) = M.mv.length by simp, List.take_length] at G'
        have key : EvL K (tLc (iList K (tVar 6)) (gName 11) tYes (tCB (rTupS K) (tCons (tLc (iList K (tVar 11)) (gName 12) tYes (tCB (rTupS K) (tCons (tVar 12) tNil)) [12]) tNil)) [11]) [some x0, some y1, some (.int (M.n : Nat)), some y3, some y4, some y5, some (.ref F), s7, s8, s9, s10, none, none] H' ((List.range ((List.range lt.length).map fun a => V.ref (A' a)).length).map fun a => matD (letM M a)) :=
          evl_mapV (eviv_list (.inl (.inl G'.top)) (evr_v 6 rfl)) (fun H4 H5 s4 s5 => .inl (.inl (s5 _ _ (s4 _ _ G'.top)))) (by simp; omega) fun a x H4 hj s4 => by
            have la : a < lt.length := by
              have := (List.getElem?_eq_some_iff.mp hj).1
              simpa using this
            rw [range_at la] at hj
            cases hj
            have G4 := G'.same s4
            refine evd_is (evd_tupleL (evl_mapV (f := fun p => intsD (gridL M.n M.mv a p)) (eviv_list (.inl (.inl (G4.mid a la))) (evr_v 11 rfl)) (fun H5 H6 s5 s6 => .inl (.inl (s6 _ _ (s5 _ _ (G4.mid a la))))) (by simp; omega) fun p y H5 hp s5 => ?_)) ?_
            · have lp : p < M.n := by
                have := (List.getElem?_eq_some_iff.mp hp).1
                simpa using this
              rw [range_at lp] at hp
              cases hp
              exact evd_tupleLs (.inl (.inl (s5 _ _ (G4.row a p la lp)))) (.ints _) (evr_v 12 rfl)
            · rw [List.length_map, List.length_range]
              unfold matD letM ofFn gridL
              rw [List.map_map]; rfl
        refine key.use _ fun pp xs H4 hp s4 e4 d4 => q pp xs H4 ((s1.trans sH).free hp) ((s1.trans sH).trans s4) e4 (by simpa using d4)
end
end Kw

set_option maxRecDepth 100000
set_option maxHeartbeats 2000000
/-! Dicts from whole numbers, lists compared with [], extend, append, min, enumerate, sorted(dict). -/
namespace KD
open PySem PySem.Spec PyProof.Rows L2

/-! ### plain: lists of pairs as dicts -/
section
variable {α β : Type}
def fnd (l : List (Nat × α)) (s : Nat) : Option α := (l.find? fun p => decide (p.1 = s)).map (·.2)
def putN (l : List (Nat × α)) (s : Nat) (v : α) : List (Nat × α) := if s ∈ l.map (·.1) then l.map (fun p => if p.1 = s then (p.1, v) else p) else l ++ [(s, v)]
def mapN (f : α → β) (l : List (Nat × α)) : List (Nat × β) := l.map fun p => (p.1, f p.2)
theorem fnd_nil (s : Nat) : fnd ([] : List (Nat × α)) s = none := rfl
theorem fnd_cons (p : Nat × α) (l : List (Nat × α)) (s : Nat) : fnd (p :: l) s = if p.1 = s then some p.2 else fnd l s := by
  unfold fnd
  rw [List.find?_cons]
  by_cases h : p.1 = s <;> simp [h]
theorem fnd_isSome {l : List (Nat × α)} {s : Nat} : (fnd l s).isSome = true ↔ s ∈ l.map (·.1) := by
  induction l with
  | nil => simp [fnd_nil]
  | cons p l ih =>
    rw [fnd_cons, List.map_cons, List.mem_cons]
    by_cases h : p.1 = s
    · simp [h]
    · rw [if_neg h, ih]
      exact ⟨.inr, fun z => z.resolve_left fun e => h e.symm⟩
theorem fnd_none {l : List (Nat × α)} {s : Nat} : fnd l s = none ↔ s ∉ l.map (·.1) := by
  rw [← fnd_isSome]
  cases fnd l s <;> simp
theorem fnd_mem {l : List (Nat × α)} {s : Nat} {v : α} (h : fnd l s = some v) : (s, v) ∈ l := by
  induction l with
  | nil => cases h
  | cons p l ih =>
    rw [fnd_cons] at h
    by_cases e : p.1 = s
    · rw [if_pos e] at h
      cases h
      subst e
      exact List.mem_cons_self
    · rw [if_neg e] at h
      exact List.mem_cons_of_mem _ (ih h)
theorem fnd_of {l : List (Nat × α)} {s : Nat} {v : α} (nd : (l.map (·.1)).Nodup) (h : (s, v) ∈ l) : fnd l s = some v := by
  induction l with
  | nil => simp at h
  | cons p l ih =>
    rw [List.map_cons, List.nodup_cons] at nd
    rw [fnd_cons]
    rcases List.mem_cons.mp h with e | h'
    · rw [← e]; simp
    · rw [if_neg, ih nd.2 h']
      intro e
      exact nd.1 (e ▸ List.mem_map.mpr ⟨(s, v), h', rfl⟩)
theorem fnd_mapN {f : α → β} {l : List (Nat × α)} {s : Nat} : fnd (mapN f l) s = (fnd l s).map f := by
  induction l with
  | nil => rfl
  | cons p l ih =>
    show fnd ((p.1, f p.2) :: mapN f l) s = _
    rw [fnd_cons, fnd_cons, ih]
    by_cases e : p.1 = s <;> simp [e]
theorem fnd_append {l k : List (Nat × α)} {s : Nat} : fnd (l ++ k) s = (fnd l s).or (fnd k s) := by
  induction l with
  | nil => simp [fnd_nil]
  | cons p l ih =>
    rw [List.cons_append, fnd_cons, fnd_cons, ih]
    by_cases e : p.1 = s <;> simp [e]
theorem keys_mapN {f : α → β} {l : List (Nat × α)} : (mapN f l).map (·.1) = l.map (·.1) := by
  unfold mapN
  rw [List.map_map]; rfl
theorem keys_putN {l : List (Nat × α)} {s : Nat} {v : α} : (putN l s v).map (·.1) = if s ∈ l.map (·.1) then l.map (·.1) else l.map (·.1) ++ [s] := by
  unfold putN
  by_cases h : s ∈ l.map (·.1)
  · rw [if_pos h, if_pos h, List.map_map]
    refine List.map_congr_left fun p _ => ?_
    simp only [Function.comp]
    split <;> rfl
  · rw [if_neg h, if_neg h, List.map_append]; rfl
theorem nodup_putN {l : List (Nat × α)} {s : Nat} {v : α} (nd : (l.map (·.1)).Nodup) : ((putN l s v).map (·.1)).Nodup := by
  rw [keys_putN]
  split
  · exact nd
  · rename_i h
    rw [List.nodup_append]
    refine ⟨nd, by simp, fun a ha b hb e => ?_⟩
    simp at hb
    exact h (hb ▸ e ▸ ha)
theorem fnd_putN {l : List (Nat × α)} {s t : Nat} {v : α} : fnd (putN l s v) t = if t = s then some v else fnd l t := by
  unfold putN
  by_cases h : s ∈ l.map (·.1)
  · rw [if_pos h]
    induction l with
    | nil => simp at h
    | cons p l ih =>
      rw [List.map_cons, fnd_cons, fnd_cons]
      by_cases e : p.1 = s
      · by_cases e2 : t = s
        · subst e2
          simp [e]
        · rw [if_neg e2]
          have e3 : ¬ p.1 = t := fun z => e2 (z.symm.trans e)
          simp only [e, if_true]
          rw [if_neg (fun z => e2 z.symm), if_neg (fun z => e2 z.symm)]
          clear ih h
          induction l with
          | nil => rfl
          | cons q l ih2 =>
            rw [List.map_cons, fnd_cons, fnd_cons, ih2]
            by_cases e4 : q.1 = s
            · have e5 : ¬ q.1 = t := fun z => e2 (z.symm.trans e4)
              rw [if_pos e4, if_neg e5, if_neg (by exact e5)]
            · simp only [e4, if_false]
      · have h' : s ∈ l.map (·.1) := by
          rw [List.map_cons] at h
          exact (List.mem_cons.mp h).resolve_left fun z => e z.symm
        simp only [e, if_false]
        rw [ih h']
        by_cases e2 : t = s
        · subst e2
          simp [e]
        · simp [e2]
  · rw [if_neg h, fnd_append, fnd_cons, fnd_nil]
    by_cases e2 : t = s
    · subst e2
      rw [fnd_none.mpr h]
      simp
    · rw [if_neg (fun z => e2 z.symm), if_neg e2]
      cases fnd l t <;> rfl
end
def kvN (l : List (Nat × V)) : List (Key × V) := l.map fun p => (.inl (p.1 : Int), p.2)
def vI (l : List (Nat × Int)) : List (Nat × V) := mapN V.int l
theorem valV_kvN (l : List (Nat × V)) (s : Nat) : valV (kvN l) (.inl (s : Int)) = fnd l s := by
  induction l with
  | nil => rfl
  | cons p l ih =>
    rw [fnd_cons]
    by_cases e : p.1 = s
    · rw [if_pos e]
      exact valV_pos (by show Sum.inl (p.1 : Int) = _; rw [e])
    · rw [if_neg e, ← ih]
      exact valV_neg (by
        show ¬ Sum.inl (p.1 : Int) = Sum.inl (s : Int)
        intro z
        have := Sum.inl.inj z
        omega)
theorem putK_kvN (l : List (Nat × V)) (s : Nat) (v : V) : putK (kvN l) (.inl (s : Int)) v = kvN (putN l s v) := by
  unfold putK putN
  rw [valV_any, valV_kvN]
  by_cases h : s ∈ l.map (·.1)
  · rw [if_pos (fnd_isSome.mpr h), if_pos h]
    unfold kvN
    rw [List.map_map, List.map_map]
    refine List.map_congr_left fun p _ => ?_
    simp only [Function.comp]
    by_cases e : p.1 = s
    · rw [if_pos (by rw [e]), if_pos e]
    · rw [if_neg, if_neg e]
      intro z
      have := Sum.inl.inj z
      omega
  · rw [if_neg (fun z => h (fnd_isSome.mp z)), if_neg h]
    unfold kvN
    rw [List.map_append]; rfl
section
variable {K : PySem.W.Frag} {H H' : Hp} {σ : L2.St} {te ta td ty tv tb : TE} {d e f : PyData} {D : Ends} {u : TS}
abbrev Ref (te : TE) (σ : L2.St) (H : Hp) (p : Addr) : Prop := ∀ H1, Same H H1 → ∀ Q : VK, (∀ H2, Same H1 H2 → Q (.ref p) H2) → te σ H1 Q
theorem evd_dget {a : Addr} {l : List (Nat × V)} {s : Nat} {v : V} (hr : Rd H a (.dK (kvN l))) (hd : Ref td σ H a) (hy : EvD K ty σ H (.int s)) (h : fnd l s = some v) (hv : Dq K H v f) : EvD K (tDGet td ty) σ H f := fun H1 s1 Q q =>
  hd H1 s1 _ fun H2 s2 => hy.run (s1.trans s2) fun y H3 s3 p3 => by
    cases p3
    have s03 := (s1.trans s2).trans s3
    exact ⟨a, v, rfl, .inl ⟨kvN l, .inl (s : Int), rd_same s03 hr, rfl, by rw [valV_kvN, h]⟩, q v H3 _ (s2.trans s3) (hv.mono s03) rfl⟩
theorem evd_din {a : Addr} {l : List (Nat × V)} {s : Nat} (hr : Rd H a (.dK (kvN l))) (hd : Ref td σ H a) (hy : EvD K ty σ H (.int s)) : EvD K (tDIn ty td) σ H (.bool (fnd l s).isSome) := fun H1 s1 Q q =>
  hy.run s1 fun y H2 s2 p2 => hd H2 (s1.trans s2) _ fun H3 s3 => by
    cases p2
    have s03 := (s1.trans s2).trans s3
    exact ⟨a, fnd l s, rfl, .inl ⟨kvN l, .inl (s : Int), rd_same s03 hr, rfl, (valV_kvN l s).symm⟩, q _ H3 _ (s2.trans s3) (.bl _) rfl⟩
theorem evd_dnotin {a : Addr} {l : List (Nat × V)} {s : Nat} (hr : Rd H a (.dK (kvN l))) (hd : Ref td σ H a) (hy : EvD K ty σ H (.int s)) : EvD K (tDNotIn ty td) σ H (.bool (!(fnd l s).isSome)) := fun H1 s1 Q q =>
  hy.run s1 fun y H2 s2 p2 => hd H2 (s1.trans s2) _ fun H3 s3 => by
    cases p2
    have s03 := (s1.trans s2).trans s3
    exact ⟨a, fnd l s, rfl, .inl ⟨kvN l, .inl (s : Int), rd_same s03 hr, rfl, (valV_kvN l s).symm⟩, q _ H3 _ (s2.trans s3) (.bl _) rfl⟩
theorem evs_dput {a : Addr} {l : List (Nat × V)} {s : Nat} (ha : H a = some (.dK (kvN l))) (hl : l.length ≤ 100000) (hv : EvD K tv σ H f) (hd : Ref td σ H a) (hy : EvD K ty σ H (.int s)) (q : ∀ v H1, Same H H1 → Dq K H1 v f → D.nx σ (upd H1 a (.dK (kvN (putN l s v))))) :
    sDPut td ty tv D σ H := hv.use _ fun v H1 s1 p1 => hd H1 s1 _ fun H2 s2 => hy.run (s1.trans s2) fun y H3 s3 p3 => by
  cases p3
  have s03 := (s1.trans s2).trans s3
  refine ⟨a, _, rfl, .inl ⟨kvN l, .inl (s : Int), s03 _ _ ha, rfl, ?_, rfl⟩, ?_⟩
  · unfold kvN
    rw [List.length_map]
    exact Nat.lt_of_le_of_lt hl (by decide)
  · rw [putK_kvN]
    exact q v H3 s03 (p1.mono (s2.trans s3))
theorem evq_dput {a : Addr} {l : List (Nat × V)} {s : Nat} (ha : H a = some (.dK (kvN l))) (hl : l.length ≤ 100000) (hv : EvD K tv σ H f) (hd : Ref td σ H a) (hy : EvD K ty σ H (.int s)) (q : ∀ v H1, Same H H1 → Dq K H1 v f → u D σ (upd H1 a (.dK (kvN (putN l s v))))) :
    tSeq (sDPut td ty tv) u D σ H := evs_dput (D := { D with nx := u D }) ha hl hv hd hy q
/-- a list against [] -/
theorem evd_neNil {n : Nat} {p : Addr} {xs : List V} {ds : List PyData} (hs : SqL K H p xs) (hd : DqAll K H xs ds) (hg : ∀ d ∈ ds, Kw.Good n d) (hn : n + 2 ≤ 64) (ha : Ref ta σ H p) : EvD K (tOp (rNeD K) ta (tLst tNil)) σ H (.bool (!decide (ds = []))) := fun H1 s1 Q q =>
  ha H1 s1 _ fun H2 s2 => (evl_lst (eva_nil (K := K)) (by simp)) H2 (Same.refl _) _ fun p2 xs2 H3 hp2 s3 e3 d3 => by
    cases d3
    have s03 := (s1.trans s2).trans s3
    have sh : SeqAt.shaped (.list ds) = true := by
      show (PyData.canLay0 (.list ds) && decide ((PyData.list ds).depth ≤ 64)) = true
      have d1 := Kw.depAll_of fun d hd => (hg d hd).dep
      have d2 : (PyData.list ds).depth ≤ 64 := by
        show PyData.depthAll ds + 1 ≤ 64
        omega
      rw [decide_eq_true d2, Bool.and_true]
      simp only [PyData.canLay0]
      exact Kw.layAll_of fun d hd => (hg d hd).lay
    refine ⟨.list ds, .list [], .lst (sqL_same s03 hs) (dqAll_dp ds _ (Kw.flatAll_of fun d hd => (hg d hd).flat) (hd.mono s03)), .lst (.inl (.inl e3)) .nil, sh, by decide +kernel, ?_⟩
    have : PyData.eqv (.list ds) (.list []) = decide (ds = []) := by
      cases ds <;> simp [PyData.eqv, PyData.eqvAll]
    rw [this]
    exact q _ H3 _ (s2.trans s3) (.bl _) rfl
theorem evd_eqNil {n : Nat} {p : Addr} {xs : List V} {ds : List PyData} (hs : SqL K H p xs) (hd : DqAll K H xs ds) (hg : ∀ d ∈ ds, Kw.Good n d) (hn : n + 2 ≤ 64) (ha : Ref ta σ H p) : EvD K (tOp (rEqD K) ta (tLst tNil)) σ H (.bool (decide (ds = []))) := fun H1 s1 Q q =>
  ha H1 s1 _ fun H2 s2 => (evl_lst (eva_nil (K := K)) (by simp)) H2 (Same.refl _) _ fun p2 xs2 H3 hp2 s3 e3 d3 => by
    cases d3
    have s03 := (s1.trans s2).trans s3
    have sh : SeqAt.shaped (.list ds) = true := by
      show (PyData.canLay0 (.list ds) && decide ((PyData.list ds).depth ≤ 64)) = true
      have d1 := Kw.depAll_of fun d hd => (hg d hd).dep
      have d2 : (PyData.list ds).depth ≤ 64 := by
        show PyData.depthAll ds + 1 ≤ 64
        omega
      rw [decide_eq_true d2, Bool.and_true]
      simp only [PyData.canLay0]
      exact Kw.layAll_of fun d hd => (hg d hd).lay
    refine ⟨.list ds, .list [], .lst (sqL_same s03 hs) (dqAll_dp ds _ (Kw.flatAll_of fun d hd => (hg d hd).flat) (hd.mono s03)), .lst (.inl (.inl e3)) .nil, sh, by decide +kernel, ?_⟩
    have : PyData.eqv (.list ds) (.list []) = decide (ds = []) := by
      cases ds <;> simp [PyData.eqv, PyData.eqvAll]
    rw [this]
    exact q _ H3 _ (s2.trans s3) (.bl _) rfl
theorem EvL.ref_eqNil {n : Nat} {ds : List PyData} (h : EvL K ta σ H ds) (hg : ∀ d ∈ ds, Kw.Good n d) (hn : n + 2 ≤ 64) : EvD K (tOp (rEqD K) ta (tLst tNil)) σ H (.bool (decide (ds = []))) := fun H1 s1 Q q =>
  h H1 s1 _ fun p xs H2 hp s2 e2 d2 => by
    have z := evd_eqNil (σ := σ) (ta := tC (.ref p)) (.inl (.inl e2)) d2 hg hn (fun H1 _ Q q => q H1 (Same.refl H1))
    exact z H2 (Same.refl _) (fun v H' => Q v H') fun v H3 r s3 p3 e3 => q v H3 r (s2.trans s3) p3 e3
theorem EvL.ref_neNil {n : Nat} {ds : List PyData} (h : EvL K ta σ H ds) (hg : ∀ d ∈ ds, Kw.Good n d) (hn : n + 2 ≤ 64) : EvD K (tOp (rNeD K) ta (tLst tNil)) σ H (.bool (!decide (ds = []))) := fun H1 s1 Q q =>
  h H1 s1 _ fun p xs H2 hp s2 e2 d2 => by
    have z := evd_neNil (σ := σ) (ta := tC (.ref p)) (.inl (.inl e2)) d2 hg hn (fun H1 _ Q q => q H1 (Same.refl H1))
    exact z H2 (Same.refl _) (fun v H' => Q v H') fun v H3 r s3 p3 e3 => q v H3 r (s2.trans s3) p3 e3
/-- min, max of a list of ints -/
def IsMin (ns : List Int) (m : Int) : Prop := m ∈ ns ∧ ∀ y ∈ ns, m ≤ y
def IsMax (ns : List Int) (m : Int) : Prop := m ∈ ns ∧ ∀ y ∈ ns, y ≤ m
theorem evp_minLs {p : Addr} {ns : List Int} (hs : SqL K H p (ns.map V.int)) (h0 : ns ≠ []) (ha : Ref te σ H p) : EvP K (tCB (rMin K) (tCons te tNil)) σ H (fun r => ∃ m, r = .int m ∧ IsMin ns m) := fun H1 s1 Q q => ha H1 s1 _ fun H2 s2 =>
  ⟨p, ns, rfl, sqL_same (s1.trans s2) hs, List.length_pos_iff.mpr h0, fun m h1 h2 => q _ H2 (.int m) s2 (.int m) ⟨m, rfl, h1, h2⟩⟩
theorem evp_minL {ns : List Int} (h : EvL K te σ H (ns.map .int)) (h0 : ns ≠ []) : EvP K (tCB (rMin K) (tCons te tNil)) σ H (fun r => ∃ m, r = .int m ∧ IsMin ns m) := fun H1 s1 Q q => h H1 s1 _ fun p xs H2 hp s2 e2 d2 => by
  have := d2.of_ints
  subst this
  exact ⟨p, ns, rfl, .inl (.inl e2), List.length_pos_iff.mpr h0, fun m h1 h2 => q _ H2 (.int m) s2 (.int m) ⟨m, rfl, h1, h2⟩⟩
theorem evp_maxL {ns : List Int} (h : EvL K te σ H (ns.map .int)) (h0 : ns ≠ []) : EvP K (tCB (rMax K) (tCons te tNil)) σ H (fun r => ∃ m, r = .int m ∧ IsMax ns m) := fun H1 s1 Q q => h H1 s1 _ fun p xs H2 hp s2 e2 d2 => by
  have := d2.of_ints
  subst this
  exact ⟨p, ns, rfl, .inl (.inl e2), List.length_pos_iff.mpr h0, fun m h1 h2 => q _ H2 (.int m) s2 (.int m) ⟨m, rfl, h1, h2⟩⟩
/-- l.append(e), l.extend(e) as statements -/
theorem evq_append {p : Addr} {xs : List V} (hp : H p = some (.lst xs)) (hl : xs.length ≤ 100000) (ha : Ref ta σ H p) (h : EvD K te σ H d) (q : ∀ v H1, Same H H1 → Dq K H1 v d → u D σ (upd H1 p (.lst (xs ++ [v])))) : tSeq (tDrop (tBM K "list" rAppend ta (tCons te tNil))) u D σ H :=
  ha H (Same.refl H) _ fun H1 s1 => ⟨.inl ⟨rfl, xs, .inl (.inl (s1 _ _ hp))⟩, h.run s1 fun v H2 s2 p2 => ⟨p, xs, v, rfl, rfl, s2 _ _ (s1 _ _ hp), len100 hl, q v H2 (s1.trans s2) p2⟩⟩
theorem evs_append {p : Addr} {xs : List V} (hp : H p = some (.lst xs)) (hl : xs.length ≤ 100000) (ha : Ref ta σ H p) (h : EvD K te σ H d) (q : ∀ v H1, Same H H1 → Dq K H1 v d → D.nx σ (upd H1 p (.lst (xs ++ [v])))) : tDrop (tBM K "list" rAppend ta (tCons te tNil)) D σ H :=
  ha H (Same.refl H) _ fun H1 s1 => ⟨.inl ⟨rfl, xs, .inl (.inl (s1 _ _ hp))⟩, h.run s1 fun v H2 s2 p2 => ⟨p, xs, v, rfl, rfl, s2 _ _ (s1 _ _ hp), len100 hl, q v H2 (s1.trans s2) p2⟩⟩
theorem evq_extend {p : Addr} {xs : List V} {ds : List PyData} (hp : H p = some (.lst xs)) (hl : xs.length + ds.length ≤ 100000) (ha : Ref ta σ H p) (h : EvL K te σ H ds) (q : ∀ zs H1, Same H H1 → DqAll K H1 zs ds → u D σ (upd H1 p (.lst (xs ++ zs)))) : tSeq (tDrop (tBM K "list" rExtend ta (tCons te tNil))) u D σ H :=
  ha H (Same.refl H) _ fun H1 s1 => ⟨.inl ⟨rfl, xs, .inl (.inl (s1 _ _ hp))⟩, h H1 s1 _ fun b zs H2 hb s2 e2 d2 => ⟨p, b, xs, zs, rfl, rfl, s2 _ _ (s1 _ _ hp), e2, by rw [d2.length, sizeLine_eq]; omega, q zs H2 (s1.trans s2) d2⟩⟩
theorem evs_extend {p : Addr} {xs : List V} {ds : List PyData} (hp : H p = some (.lst xs)) (hl : xs.length + ds.length ≤ 100000) (ha : Ref ta σ H p) (h : EvL K te σ H ds) (q : ∀ zs H1, Same H H1 → DqAll K H1 zs ds → D.nx σ (upd H1 p (.lst (xs ++ zs)))) : tDrop (tBM K "list" rExtend ta (tCons te tNil)) D σ H :=
  ha H (Same.refl H) _ fun H1 s1 => ⟨.inl ⟨rfl, xs, .inl (.inl (s1 _ _ hp))⟩, h H1 s1 _ fun b zs H2 hb s2 e2 d2 => ⟨p, b, xs, zs, rfl, rfl, s2 _ _ (s1 _ _ hp), e2, by rw [d2.length, sizeLine_eq]; omega, q zs H2 (s1.trans s2) d2⟩⟩
/-- enumerate(tuple) -/
def enumD (ds : List PyData) : List PyData := (List.range ds.length).map fun i => .tuple [.int (i : Nat), ds.getD i .none]
theorem enumD_get {ds : List PyData} {i : Nat} {d : PyData} (h : ds[i]? = some d) : (enumD ds)[i]? = some (.tuple [.int (i : Nat), d]) := by
  have hi := (List.getElem?_eq_some_iff.mp h).1
  unfold enumD
  rw [List.getElem?_map, List.getElem?_range hi]
  have : ds.getD i .none = d := by rw [List.getD_eq_getElem?_getD, h]; rfl
  show some (PyData.tuple [.int (i : Nat), ds.getD i .none]) = _
  rw [this]
theorem enumD_length {ds : List PyData} : (enumD ds).length = ds.length := by simp [enumD]
theorem evi_enumT {ds : List PyData} (h : EvD K te σ H (.tuple ds)) : EvI Kp K (iEnumT K (tCons te tNil)) σ H (enumD ds) := fun H1 s R q => h.run s fun v H2 s2 p2 => by
  obtain ⟨a, xs, rfl, h1, h2⟩ := p2.tupE
  refine ⟨a, xs, rfl, h1, q _ H2 s2 ⟨fun H' k => ?_, fun i d H' e k => ?_, fun i d x H' H'' e k y => ?_⟩⟩
  · exact ⟨xs, sqT_kp k h1, by rw [h2.length, enumD_length]; exact Nat.le_refl _⟩
  · have hi := (List.getElem?_eq_some_iff.mp e).1
    rw [enumD_length] at hi
    obtain ⟨v, hv, _⟩ := h2.get (List.getElem?_eq_getElem hi)
    exact ⟨xs, v, sqT_kp k h1, hv⟩
  · have hi := (List.getElem?_eq_some_iff.mp e).1
    rw [enumD_length] at hi
    have he := List.getElem?_eq_getElem hi
    rw [enumD_get he] at e
    cases e
    obtain ⟨v, hv, hp⟩ := h2.get he
    obtain ⟨T, x', rfl, hT, rfl, z⟩ := y
    have ex : x' = v := Option.some.inj ((z xs (sqT_kp k h1)).symm.trans hv)
    subst ex
    have sm := same_new (o := .tup [.int (i : Nat), x']) hT
    exact ⟨sm, .tup (.inl (.inl upd_same)) (.cons (.int _) (.one ((hp.kp k).mono sm)))⟩
/-- sorted(d), keys whole numbers -/
def rSortDI : List V → Hp → VK → Prop := fun xs H Q => ∃ (a : Addr) (kvs : List (Key × V)) (ks : List Int), xs = [.ref a] ∧ Rd H a (.dK kvs) ∧ kvs.map (·.1) = ks.map Sum.inl ∧ ks.length < 64 ∧
    ∀ (ys : List Int) (p : Addr), ys.Perm ks → ys.Pairwise (· ≤ ·) → H p = none → Q (.ref p) (upd H p (.lst (ys.map V.int)))
theorem kSortDI {X : Cx} (hc : X.calm = true := by rfl) : CallR X (.builtin "sorted") rSortDI := call_sortedDI hc
end
end KD

set_option maxRecDepth 100000
set_option maxHeartbeats 2000000
/-! p[::-1] of a pair. -/
namespace KD
open PySem PySem.Spec PyProof.Rows L2
theorem sliceApplied_back {prog : Program} {w : World} {A : Around} {E : Value → Shared → Prop} {s : Shared} {sl : Addr} {vl vu vs : Value} {n : Nat} {Q : Int × Int × Nat → Shared → Prop} (hs : s.heap.IsSliceOf sl vl vu vs) (pl : IsPart vl none) (pu : IsPart vu none) (ps : IsPart vs (some (-1)))
    (h : Q ((n : Int) - 1, -1, n) s) : wpAny (model prog w) A (Builtin.Slice.sliceApplied (.ref sl) (pure (n : Int))) Q E s := by
  obtain ⟨os, hos, hcs, hds⟩ := id hs
  unfold Builtin.Slice.sliceApplied Builtin.Slice.sliceFields
  refine wpAny_bind (wpAny_bind (wpAny_field hos hds (x := vl) rfl (wpAny_bind (wpAny_field hos hds (x := vu) rfl (wpAny_bind (wpAny_field hos hds (x := vs) rfl (wpAny_pure ?_)))))))
  refine wpAny_bind (HT.slicePart_ ps ?_)
  show wpAny _ _ (if ((-1 : Int) == 0) = true then _ else _) _ _ s
  rw [if_neg (by decide)]
  refine wpAny_bind (HT.slicePart_ pl (wpAny_bind (HT.slicePart_ pu (wpAny_bind (wpAny_pure ?_)))))
  show wpAny _ _ (pure ((n : Int) - 1, (-1 : Int), Builtin.Slice.slicePlaces ((n : Int) - 1) (-1) (-1))) _ _ s
  have e : Builtin.Slice.slicePlaces ((n : Int) - 1) (-1) (-1) = n := by
    unfold Builtin.Slice.slicePlaces
    have h1 : ¬ ((-1 : Int) > 0) := by decide
    simp only [h1, if_false]
    split
    · rw [show (- -1 : Int) = 1 by decide, Int.ediv_one]; omega
    · omega
  rw [e]
  exact wpAny_pure h
theorem getItem_pair_back {prog : Program} {w : World} {A : Around} {E : Value → Shared → Prop} {s : Shared} {t sl : Addr} {a b : Value} {vl vu vs : Value} {Q : Value → Shared → Prop} (ht : IsTup s.heap t #[a, b]) (hs : s.heap.IsSliceOf sl vl vu vs) (pl : IsPart vl none) (pu : IsPart vu none) (ps : IsPart vs (some (-1)))
    (h : Q (.ref s.heap.objs.size) { s with heap := s.heap.push { cls := .type "tuple", data := .seq #[b, a] } }) : wpAny (model prog w) A (getItem (.ref t) (.ref sl)) Q E s := by
  have htake : sizeOk (.seq #[b, a]) := by
    show (2 : Nat) ≤ sizeLine
    decide
  obtain ⟨os, hos, hcs, hds⟩ := id hs
  have hTs : s.TypeIs (.ref sl) "slice" := ⟨os, hos, hcs⟩
  unfold getItem
  try with_reducible refine wpAny_holding ?_
  first | refine wpAny_bind (wpAny_pure ?_) | skip
  refine wpAny_bind (wpAny_sequenceKey ht.typeIs (by decide) ?_)
  refine wpAny_bind (wpAny_callSpecial?_slot (name := Str.ofString "__getitem__") ht.typeIs PyProof.Rows.slot_tuple_getitem
    (wpAny_call_entry PyProof.Rows.slot_tuple_getitem ht.typeIs entry_tuple_getitem ?_ (args_tuple_getitem _ _)))
  show wpAny _ _ (Builtin.Tuple.tupleItemsOf (.ref t) >>= _) _ _ s
  refine wpAny_bind (tupleItemsOf_ ht ?_)
  refine wpAny_bind (wpAny_typeOf hTs ?_)
  rw [if_pos (by decide)]
  refine wpAny_bind (sliceApplied_back hs pl pu ps ?_)
  have hno : ¬ (((((#[a, b] : Array Value).size : Nat) : Int) - 1 == 0 && (-1 : Int) == 1 && (#[a, b] : Array Value).size == (#[a, b] : Array Value).size) = true) := by
    intro q
    rw [Bool.and_eq_true, Bool.and_eq_true] at q
    exact absurd (eq_of_beq q.1.2) (by decide)
  show wpAny _ _ (if ((((#[a, b] : Array Value).size : Nat) : Int) - 1 == 0 && (-1 : Int) == 1 && (#[a, b] : Array Value).size == (#[a, b] : Array Value).size) = true then _ else _) _ _ s
  rw [if_neg hno]
  have ep : ((List.range (#[a, b] : Array Value).size).filterMap fun (k : Nat) => (#[a, b] : Array Value)[((((#[a, b] : Array Value).size : Nat) : Int) - 1 + (k : Int) * (-1)).toNat]?).toArray = #[b, a] := rfl
  rw [ep]
  first
    | exact wpAny_bind (m := Builtin.Tuple.tupleExact _) (wpAny_newObj_type (wpAny_pure ⟨_, rfl, wpAny_pure h⟩) htake)
    | exact wpAny_bind (m := Builtin.Tuple.tupleExact _) (wpAny_newObj_type (wpAny_bind (wpAny_pure (wpAny_pure ⟨_, rfl, wpAny_pure h⟩))) htake)
    | exact wpAny_bind (wpAny_bind (m := Builtin.Tuple.tupleExact _) (wpAny_newObj_type (wpAny_pure (wpAny_pure ⟨_, rfl, wpAny_pure h⟩)) htake))
    | exact wpAny_bind (wpAny_bind (m := Builtin.Tuple.tupleExact _) (wpAny_newObj_type (wpAny_pure ⟨_, rfl, wpAny_pure h⟩) htake))
/-- p[::-1] -/
def tRev2 (K : PySem.W.Frag) (te : TE) : TE := fun σ H Q => te σ H fun x H1 => ∃ a y z, x = .ref a ∧ SqT K H1 a [y, z] ∧ ∀ p, H1 p = none → Q (.ref p) (upd H1 p (.tup [z, y]))
theorem pe_rev2 {X : Cx} {K : PySem.W.Frag} {e : Expr} {te : TE} {k : Nat} {p1 p2 p3 pos : Pos} (he : PE X e te) (hK : X.K = K := by rfl) : PE X (.Subscript e (.Slice none none (some (.UnaryOp .USub (.Constant (.int 1) k p1) p2)) p3) pos) (tRev2 K te) := by
  subst hK
  refine ⟨fun pins s σ H Q I h => ?_⟩
  refine Subscript_ (thn (he.run pins s σ H _ I h) fun v s1 ⟨x, H1, I1, r1, q1⟩ => ?_)
  obtain ⟨a, y, z, ex, hx, q⟩ := q1
  subst ex
  cases r1
  have hst : PO X (some (.UnaryOp .USub (.Constant (.int 1) k p1) p2)) (tPart (tUn (rU fun i => .int (-i)) (tC (.int 1)))) := po_some (pe_un un_neg pe_int)
  refine wpAny_Slice (thn (po_none.run pins s1 σ H1 (fun o H2 => o = none ∧ H2 = H1) I1 ⟨rfl, rfl⟩) fun vl s2 ⟨l, H2, I2, pl, el, e2⟩ => ?_)
  subst el e2
  refine thn (po_none.run pins s2 σ H2 (fun o H3 => o = none ∧ H3 = H2) I2 ⟨rfl, rfl⟩) fun vu s3 ⟨u, H3, I3, pu, eu, e3⟩ => ?_
  subst eu e3
  refine thn (hst.run pins s3 σ H3 (fun o H4 => o = some (-1) ∧ H4 = H3) I3 ⟨1, rfl, -1, rfl, rfl, rfl⟩) fun vs s4 ⟨o, H4, I4, ps, eo, e4⟩ => ?_
  subst eo e4
  have I5 : Inv X pins σ H4 { s4 with heap := s4.heap.push { cls := .type "slice", data := .fields #[vl, vu, vs] } } := I4.kept (t' := s4.toks) fun b ob q => Heap.get?_push_of_some _ q
  obtain ⟨its, r, ht, hz⟩ := I5.tuple hx
  obtain ⟨v1, v2, rfl, r1, r2⟩ : ∃ v1 v2, its = [v1, v2] ∧ RelV y v1 ∧ RelV z v2 := by
    cases r with
    | cons r1 r => cases r with
      | cons r2 r => cases r; exact ⟨_, _, rfl, r1, r2⟩
  show wpAny (model X.prog X.w) X.A (subscriptTail e (.Slice none none (some (.UnaryOp .USub (.Constant (.int 1) k p1) p2)) p3) (.ref a) (.ref s4.heap.objs.size)) (EP X pins σ Q) X.xe { s4 with heap := s4.heap.push { cls := .type "slice", data := .fields #[vl, vu, vs] } }
  refine tail_any (ops := [.ref a, .ref s4.heap.objs.size]) ht.typeIs (PyProof.Rows.slot_tuple_getitem.lookup) ?_ (by with_unfolding_all rfl)
  refine getItem_pair_back ht (Heap.IsSliceOf.new _ vl vu vs) pl pu ps ?_
  refine ⟨.ref _, _, I5.laid (t' := s4.toks) (o := .tup [z, y]) (fun b ob q => Heap.get?_push_of_some _ q) (Nat.le_refl _) ?_, rfl, q _ (I5.hok.fresh (Nat.le_refl _))⟩
  exact ⟨by show (2 : Nat) ≤ sizeLine; decide, [v2, v1], .cons r2 (.cons r1 .nil), IsTup.new _ _⟩
section
variable {K : PySem.W.Frag} {H : Hp} {σ : L2.St} {te : TE} {a b : PyData}
theorem evd_rev2 (h : EvD K te σ H (.tuple [a, b])) : EvD K (tRev2 K te) σ H (.tuple [b, a]) := fun H1 s Q q => h.run s fun v H2 s2 p2 => by
  obtain ⟨ad, xs, rfl, h1, h2⟩ := p2.tupE
  obtain ⟨x, y, rfl, k1, k2⟩ := h2.two
  refine ⟨ad, x, y, rfl, h1, fun p hp => ?_⟩
  exact q _ _ _ (s2.trans (same_new hp)) (.tup (.inl (.inl upd_same)) (.cons (k2.mono (same_new hp)) (.one (k1.mono (same_new hp))))) rfl
end
end KD

set_option maxRecDepth 100000
set_option maxHeartbeats 2000000
/-! pairs of matrices -/
namespace KD
open PySem PySem.Spec PyProof.Rows L2
/-- a promise told by a parameter -/
def spX (K : PySem.W.Frag) {α : Type} (args : α → List PyData) (pre : α → Prop) (res : α → PyData → Prop) : Sp := fun vs H Q _ => ∃ a, DqAll K H vs (args a) ∧ pre a ∧ ∀ v H' r, Same H H' → Dq K H' v r → res a r → Q v H'
section
variable {K : PySem.W.Frag} {H : Hp} {σ : L2.St} {ta : TA} {E : XK} {α : Type} {args : α → List PyData} {pre : α → Prop} {res : α → PyData → Prop}
theorem evx_call (a : α) (h : EvA K ta σ H (args a)) (hp : pre a) : EvP K (tCall (spX K args pre res) [] E ta) σ H (res a) := fun H1 s Q q =>
  h H1 s _ fun vs H2 s2 p2 => ⟨a, by rw [List.append_nil]; exact p2, hp, fun v H3 r s3 p3 e => q v H3 r (s2.trans s3) p3 e⟩
theorem evx_callD {d : PyData} (a : α) (h : EvA K ta σ H (args a)) (hp : pre a) (hd : ∀ r, res a r → r = d) : EvD K (tCall (spX K args pre res) [] E ta) σ H d := (evx_call a h hp).imp hd
end
end KD
namespace Kw
open PySem PySem.Spec PyProof.Rows L2 KD Mx
def pairD (X Y : Mat) : PyData := .tuple [matD X, matD Y]
/-- two square matrices of sizes n and m -/
structure PSq (n m : Nat) (X Y : Mat) : Prop where
  x : Sq n X
  y : Sq m Y
def SzOk (n m : Nat) : Prop := (1 ≤ n ∧ n ≤ 100) ∧ 1 ≤ m ∧ m ≤ 100
section
variable {P : Program} {w : World} {K : PySem.W.Frag} {mg : Str → Option Value} {base : Heap}
theorem evd_fst {H : Hp} {σ : L2.St} {te : TE} {X Y : Mat} (h : EvD K te σ H (pairD X Y)) : EvD K (tOp (rIxT K) te (tC (.int 0))) σ H (matD X) := evd_ixT (i := 0) h evd_int rfl
theorem evd_snd {H : Hp} {σ : L2.St} {te : TE} {X Y : Mat} (h : EvD K te σ H (pairD X Y)) : EvD K (tOp (rIxT K) te (tC (.int 1))) σ H (matD Y) := evd_ixT (i := 1) h evd_int rfl
def spPairTimes (K : PySem.W.Frag) : Sp := spX K (α := (Nat × Nat) × (Mat × Mat) × Mat × Mat) (fun a => [pairD a.2.1.1 a.2.1.2, pairD a.2.2.1 a.2.2.2]) (fun a => SzOk a.1.1 a.1.2 ∧ PSq a.1.1 a.1.2 a.2.1.1 a.2.1.2 ∧ PSq a.1.1 a.1.2 a.2.2.1 a.2.2.2)
  (fun a r => r = pairD (times a.1.1 a.2.1.1 a.2.2.1) (times a.1.2 a.2.1.2 a.2.2.2))
theorem ok_pair_times (T : Txt K mg) : FnOk P w K mg base CX0 4 T.A_pair_times.f T.A_pair_times.d ["one", "other"] (spPairTimes K) := by
  refine T.A_pair_times.F.ok sc_pair_times (fun vs H Q E h => ?_) (fun cdv A outer s H vs Q E hr h => ?_)
  · obtain ⟨a, hd, _⟩ := h; exact hd.length
  · obtain ⟨⟨⟨n, m⟩, ⟨X, Y⟩, X', Y'⟩, hd, ⟨z, p, p'⟩, q⟩ := h
    refine ⟨_, ((pss_one (ps_ret (pe_tup (pa_cons (pe_call (ok_times T) (hr.mono (by decide)) (by rfl) T.A_times.g T.A_times.F.kp T.A_times.b .nil pass0 (pa_cons (pe_ix (kIxT (K := K)) (pv 0) pe_int (fun _ _ => rfl)) (pa_cons (pe_ix (kIxT (K := K)) (pv 1) pe_int (fun _ _ => rfl)) pa_nil))) (pa_cons (pe_call (ok_times T) (hr.mono (by decide)) (by rfl) T.A_times.g T.A_times.F.kp T.A_times.b .nil pass0 (pa_cons (pe_ix (kIxT (K := K)) (pv 0) pe_int (fun _ _ => rfl)) (pa_cons (pe_ix (kIxT (K := K)) (pv 1) pe_int (fun _ _ => rfl)) pa_nil))) pa_nil)))))), ?_⟩
    obtain ⟨x0, x1, rfl, h0, h1⟩ := hd.two
    have v0 : EvD K (tVar 0) (L2.start ["one", "other"] [x0, x1]) H (pairD X Y) := evd_v 0 rfl h0
    have v1 : EvD K (tVar 1) (L2.start ["one", "other"] [x0, x1]) H (pairD X' Y') := evd_v 1 rfl h1
    exact evs_retD (d := pairD (times n X X') (times m Y Y')) (evd_tup (eva_cons (evd_callX (eva_cons (evd_fst v0) (eva_cons (evd_fst v1) eva_nil)) ⟨n, X, X', rfl, p.x, p'.x, z.1⟩ fun r h => times_at p.x h) (eva_cons (evd_callX (eva_cons (evd_snd v0) (eva_cons (evd_snd v1) eva_nil)) ⟨m, Y, Y', rfl, p.y, p'.y, z.2⟩ fun r h => times_at p.y h) eva_nil)) (by simp)) fun v H1 s p => q v H1 _ s p rfl
noncomputable def ownP (n m : Nat) (X Y : Mat) : Bool := ownB n X && ownB m Y
def spOwnPair (K : PySem.W.Frag) : Sp := spX K (α := (Nat × Nat) × Mat × Mat) (fun a => [pairD a.2.1 a.2.2]) (fun a => SzOk a.1.1 a.1.2 ∧ PSq a.1.1 a.1.2 a.2.1 a.2.2) (fun a r => r = .bool (ownP a.1.1 a.1.2 a.2.1 a.2.2))
theorem ok_is_own_pair (T : Txt K mg) : FnOk P w K mg base CX0 5 T.A_is_own_pair.f T.A_is_own_pair.d ["pair"] (spOwnPair K) := by
  refine T.A_is_own_pair.F.ok sc_is_own_pair (fun vs H Q E h => ?_) (fun cdv A outer s H vs Q E hr h => ?_)
  · obtain ⟨a, hd, _⟩ := h; exact hd.length
  · obtain ⟨⟨⟨n, m⟩, X, Y⟩, hd, ⟨z, p⟩, q⟩ := h
    refine ⟨_, ((pss_one (ps_ret (pe_and (pe_call (ok_is_own_square T) (hr.mono (by decide)) (by rfl) T.A_is_own_square.g T.A_is_own_square.F.kp T.A_is_own_square.b .nil pass0 (pa_cons (pe_ix (kIxT (K := K)) (pv 0) pe_int (fun _ _ => rfl)) pa_nil)) (pe_one (pe_call (ok_is_own_square T) (hr.mono (by decide)) (by rfl) T.A_is_own_square.g T.A_is_own_square.F.kp T.A_is_own_square.b .nil pass0 (pa_cons (pe_ix (kIxT (K := K)) (pv 0) pe_int (fun _ _ => rfl)) pa_nil))))))), ?_⟩
    obtain ⟨x0, rfl, h0⟩ := hd.single
    have v0 : EvD K (tVar 0) (L2.start ["pair"] [x0]) H (pairD X Y) := evd_v 0 rfl h0
    exact evs_retD (d := .bool (ownP n m X Y)) (evd_and (evd_callX (eva_cons (evd_fst v0) eva_nil) ⟨n, X, rfl, p.x, z.1⟩ fun r h => sq_at p.x h) fun _ => evd_callX (eva_cons (evd_snd v0) eva_nil) ⟨m, Y, rfl, p.y, z.2⟩ fun r h => sq_at p.y h) fun v H1 s p => q v H1 _ s p rfl
def spPairPumped (K : PySem.W.Frag) : Sp := spX K (α := (Nat × Nat) × Mat × Mat) (fun a => [pairD a.2.1 a.2.2]) (fun a => SzOk a.1.1 a.1.2 ∧ PSq a.1.1 a.1.2 a.2.1 a.2.2) (fun a r => r = pairD (pumped a.1.1 a.2.1) (pumped a.1.2 a.2.2))
theorem ok_pair_pumped (T : Txt K mg) : FnOk P w K mg base CX0 5 T.A_pair_pumped.f T.A_pair_pumped.d ["pair"] (spPairPumped K) := by
  refine T.A_pair_pumped.F.ok sc_pair_pumped (fun vs H Q E h => ?_) (fun cdv A outer s H vs Q E hr h => ?_)
  · obtain ⟨a, hd, _⟩ := h; exact hd.length
  · obtain ⟨⟨⟨n, m⟩, X, Y⟩, hd, ⟨z, p⟩, q⟩ := h
    refine ⟨_, ((pss_one (ps_ret (pe_tup (pa_cons (pe_call (ok_pumped T) (hr.mono (by decide)) (by rfl) T.A_pumped.g T.A_pumped.F.kp T.A_pumped.b .nil pass0 (pa_cons (pe_ix (kIxT (K := K)) (pv 0) pe_int (fun _ _ => rfl)) pa_nil)) (pa_cons (pe_call (ok_pumped T) (hr.mono (by decide)) (by rfl) T.A_pumped.g T.A_pumped.F.kp T.A_pumped.b .nil pass0 (pa_cons (pe_ix (kIxT (K := K)) (pv 0) pe_int (fun _ _ => rfl)) pa_nil)) pa_nil)))))), ?_⟩
    obtain ⟨x0, rfl, h0⟩ := hd.single
    have v0 : EvD K (tVar 0) (L2.start ["pair"] [x0]) H (pairD X Y) := evd_v 0 rfl h0
    exact evs_retD (d := pairD (pumped n X) (pumped m Y)) (evd_tup (eva_cons (evd_callX (eva_cons (evd_fst v0) eva_nil) ⟨n, X, rfl, p.x, z.1⟩ fun r h => sq_at p.x h) (eva_cons (evd_callX (eva_cons (evd_snd v0) eva_nil) ⟨m, Y, rfl, p.y, z.2⟩ fun r h => sq_at p.y h) eva_nil)) (by simp)) fun v H1 s p => q v H1 _ s p rfl
def spTwo (K : PySem.W.Frag) (res : Mach → Mach → PyData → Prop) : Sp := spX K (α := List Str × Mach × Mach) (fun a => [machD a.1 a.2.1, machD a.1 a.2.2]) (fun a => MOk a.1 a.2.1 ∧ MOk a.1 a.2.2) (fun a r => res a.2.1 a.2.2 r)
theorem ok_unit_pair (T : Txt K mg) : FnOk P w K mg base CX0 2 T.A_unit_pair.f T.A_unit_pair.d ["first", "second"] (spTwo K fun M N r => r = pairD (unit M.n) (unit N.n)) := by
  refine T.A_unit_pair.F.ok sc_unit_pair (fun vs H Q E h => ?_) (fun cdv A outer s H vs Q E hr h => ?_)
  · obtain ⟨a, hd, _⟩ := h; exact hd.length
  · obtain ⟨⟨lt, M, N⟩, hd, ⟨o1, o2⟩, q⟩ := h
    refine ⟨_, ((pss_one (ps_ret (pe_tup (pa_cons (pe_call (ok_unit T) (hr.mono (by decide)) (by rfl) T.A_unit.g T.A_unit.F.kp T.A_unit.b .nil pass0 (pa_cons (pe_ix (kIxT (K := K)) (pv 0) pe_int (fun _ _ => rfl)) pa_nil)) (pa_cons (pe_call (ok_unit T) (hr.mono (by decide)) (by rfl) T.A_unit.g T.A_unit.F.kp T.A_unit.b .nil pass0 (pa_cons (pe_ix (kIxT (K := K)) (pv 1) pe_int (fun _ _ => rfl)) pa_nil)) pa_nil)))))), ?_⟩
    obtain ⟨x0, x1, rfl, h0, h1⟩ := hd.two
    have v0 : EvD K (tVar 0) (L2.start ["first", "second"] [x0, x1]) H (machD lt M) := evd_v 0 rfl h0
    have v1 : EvD K (tVar 1) (L2.start ["first", "second"] [x0, x1]) H (machD lt N) := evd_v 1 rfl h1
    have n1 : M.n ≤ 12 := o1.n12
    have n2 : N.n ≤ 12 := o2.n12
    exact evs_retD (d := pairD (unit M.n) (unit N.n)) (evd_tup (eva_cons (evd_callX (eva_cons (evd_ixT (i := 1) v0 evd_int rfl) eva_nil) ⟨M.n, rfl, by omega⟩ fun r h => unit_at h) (eva_cons (evd_callX (eva_cons (evd_ixT (i := 1) v1 evd_int rfl) eva_nil) ⟨N.n, rfl, by omega⟩ fun r h => unit_at h) eva_nil)) (by simp)) fun v H1 s p => q v H1 _ s p rfl
/-- the pairs of the letters' matrices -/
def letPairs (k : Nat) (M N : Mach) : List PyData := (List.range k).map fun a => pairD (letM M a) (letM N a)
def spLetPairs (K : PySem.W.Frag) : Sp := fun vs H Q _ => ∃ (x y : V) (lt : List Str) (M N : Mach), vs = [x, y] ∧ Dq K H x (machD lt M) ∧ Dq K H y (machD lt N) ∧ MOk lt M ∧ MOk lt N ∧
  ∀ p xs H', H p = none → Same H H' → H' p = some (.lst xs) → DqAll K H' xs (letPairs lt.length M N) → Q (.ref p) H'
theorem all_by {K : PySem.W.Frag} {H : Hp} {ds : List PyData} {vs : List V} (hl : vs.length = ds.length) (h : ∀ (i : Nat) v d, vs[i]? = some v → ds[i]? = some d → Dq K H v d) : DqAll K H vs ds := by
  induction vs generalizing ds with
  | nil => cases ds with
    | nil => exact .nil
    | cons => simp at hl
  | cons v vs ih => cases ds with
    | nil => simp at hl
    | cons d ds => exact .cons (h 0 v d rfl rfl) (ih (by simpa using hl) fun i v d e1 e2 => h (i + 1) v d (by simpa using e1) (by simpa using e2))
theorem ok_pairs_of_letters (T : Txt K mg) : FnOk P w K mg base CX0 3 T.A_pairs_of_letters.f T.A_pairs_of_letters.d ["first", "second"] (spLetPairs K) := by
  refine T.A_pairs_of_letters.F.ok sc_pairs_of_letters (fun vs H Q E h => ?_) (fun cdv A outer s H vs Q E hr h => ?_)
  · obtain ⟨_, _, _, _, _, rfl, _⟩ := h; rfl
  · obtain ⟨x0, x1, lt, M, N, rfl, h0, h1, o1, o2, q⟩ := h
    refine ⟨_, ((pss_one (ps_ret (pe_listZip rfl (by rfl) T.n_list (by rfl) T.n_zip (pa_cons (pe_call (ok_matrices_of_letters T) (hr.mono (by decide)) (by rfl) T.A_matrices_of_letters.g T.A_matrices_of_letters.F.kp T.A_matrices_of_letters.b .nil pass0 (pa_cons (pv 0) pa_nil)) (pa_cons (pe_call (ok_matrices_of_letters T) (hr.mono (by decide)) (by rfl) T.A_matrices_of_letters.g T.A_matrices_of_letters.F.kp T.A_matrices_of_letters.b .nil pass0 (pa_cons (pv 1) pa_nil)) pa_nil)))))), ?_⟩
    have l6 := o1.lets.few
    refine ⟨_, rfl, x0, lt, M, rfl, h0, o1, fun p1 xs1 H1 f1 s1 e1 d1 => ?_⟩
    refine ⟨_, rfl, x1, lt, N, rfl, h1.mono s1, o2, fun p2 xs2 H2 f2 s2 e2 d2 => ?_⟩
    have l1 := d1.length
    have l2 := d2.length
    simp only [List.length_map, List.length_range] at l1 l2
    refine ⟨p1, p2, xs1, xs2, rfl, .inl (.inl (s2 _ _ e1)), .inl (.inl e2), by omega, by omega, fun Ts S H3 s3 fS atS lT atT => ?_⟩
    refine q S _ H3 ((s1.trans s2).free fS) ((s1.trans s2).trans s3) atS (all_by (by simp [letPairs, lT, l1]) fun i v d hv hd => ?_)
    rw [letPairs] at hd
    have li : i < lt.length := by
      have := (List.getElem?_eq_some_iff.mp hd).1
      simpa using this
    rw [range_at li] at hd
    cases hd
    obtain ⟨T', hT, rfl⟩ : ∃ T', Ts[i]? = some T' ∧ v = .ref T' := by
      rw [List.getElem?_map] at hv
      cases e : Ts[i]? with
      | none => rw [e] at hv; cases hv
      | some t => rw [e] at hv; exact ⟨t, rfl, (Option.some.inj hv).symm⟩
    obtain ⟨v1, hv1, dv1⟩ := d1.get (i := i) (range_at li)
    obtain ⟨v2, hv2, dv2⟩ := d2.get (i := i) (range_at li)
    exact .tup (.inl (.inl (atT i T' v1 v2 hT hv1 hv2))) (.cons (dv1.mono (s2.trans s3)) (.one (dv2.mono s3)))
/-! ### is_against -/
open Classical in
noncomputable def againstB (M N : Mach) (X Y : Mat) : Bool := decide (Against M N X Y)
def waysL (M : Mach) (X : Mat) : List Int := M.st.flatMap fun p => M.en.map fun q => ent X p q
theorem mem_ways {M : Mach} {X : Mat} {x : Int} : x ∈ waysL M X ↔ ∃ p ∈ M.st, ∃ q ∈ M.en, ent X p q = x := by
  unfold waysL
  simp only [List.mem_flatMap, List.mem_map]
def entF2 (X : Mat) : PyData → PyData → PyData
  | .int p, .int q => .int (ent X p.toNat q.toNat)
  | _, _ => .none
theorem flat_congr {α β : Type} {f g : α → List β} : ∀ {l : List α}, (∀ a ∈ l, f a = g a) → l.flatMap f = l.flatMap g
  | [], _ => rfl
  | a :: l, h => by rw [List.flatMap_cons, List.flatMap_cons, h a List.mem_cons_self, flat_congr fun b hb => h b (List.mem_cons_of_mem _ hb)]
theorem ways_code (M : Mach) (X : Mat) : (((zs M.st).map PyData.int).flatMap fun d => ((zs M.en).map PyData.int).map (entF2 X d)) = (waysL M X).map .int := by
  unfold zs waysL
  rw [List.map_flatMap, List.map_map, List.flatMap_map, List.flatMap_map]
  refine flat_congr fun p _ => ?_
  simp only [List.map_map]
  refine List.map_congr_left fun q _ => ?_
  show PyData.int (ent X (Int.toNat (p : Int)) (Int.toNat (q : Int))) = _
  simp
theorem flat_len {α β : Type} {f : α → List β} {b : Nat} : ∀ {l : List α}, (∀ a ∈ l, (f a).length ≤ b) → (l.flatMap f).length ≤ l.length * b
  | [], _ => by simp
  | a :: l, h => by
    rw [List.flatMap_cons, List.length_append, List.length_cons, Nat.succ_mul]
    have h1 := h a List.mem_cons_self
    have h2 := flat_len fun c hc => h c (List.mem_cons_of_mem _ hc)
    omega
theorem ways_len {lt : List Str} {M : Mach} (o : MOk lt M) (X : Mat) : (waysL M X).length ≤ 10000 := by
  have h1 := o.sfew
  have h2 := o.efew
  refine Nat.le_trans (flat_len (b := 100) fun a _ => by rw [List.length_map]; exact h2) ?_
  omega
theorem evl_ways {H : Hp} {σ : L2.St} {te : TE} {wi : TI} {wi1 : TI} {i j : Nat} {lt : List Str} {M : Mach} {X : Mat} (o : MOk lt M) (hX : Sq M.n X) (hs : EvI Same K wi σ H ((zs M.st).map .int))
    (h1 : ∀ x H1, Same H H1 → EvI Kp K wi1 ((wipe σ [i, j]).set i (some x)) H1 ((zs M.en).map .int))
    (h2 : ∀ (p q : Nat) x y H1, p < M.n → q < M.n → Same H H1 → Dq K H1 x (.int (p : Nat)) → Dq K H1 y (.int (q : Nat)) → EvD K te ((wipe ((wipe σ [i, j]).set i (some x)) [j]).set j (some y)) H1 (.int (ent X p q)))
    (hw1 : ∀ x : V, wipe ((wipe σ [i, j]).set i (some x)) [i, j] = wipe σ [i, j] := by intro _; rfl)
    (hw2 : ∀ x y : V, wipe ((wipe ((wipe σ [i, j]).set i (some x)) [j]).set j (some y)) [j] = wipe ((wipe σ [i, j]).set i (some x)) [j] := by intro _ _; rfl) :
    EvL K (tLc2 wi (gName i) tYes wi1 (gName j) tYes te [i, j] [j]) σ H ((waysL M X).map .int) :=
  (evl_lc2R (K := K) (fs := fun _ => (zs M.en).map .int) (f := entF2 X) hs (by rw [ways_code, List.length_map]; have := ways_len o X; omega) hk_kp (fun d x H1 _ s _ => h1 x H1 s) (fun d e x y H1 hd he s dx dy => by
    obtain ⟨p, hp, rfl⟩ := zs_mem hd
    obtain ⟨q, hq, rfl⟩ := zs_mem he
    exact h2 p q x y H1 (o.ok.st p hp) (o.ok.en q hq) s dx dy) hw1 hw2).is (ways_code M X)
def spAgainst (K : PySem.W.Frag) : Sp := spX K (α := List Str × (Mach × Mach) × Mat × Mat) (fun a => [machD a.1 a.2.1.1, machD a.1 a.2.1.2, pairD a.2.2.1 a.2.2.2]) (fun a => MOk a.1 a.2.1.1 ∧ MOk a.1 a.2.1.2 ∧ PSq a.2.1.1.n a.2.1.2.n a.2.2.1 a.2.2.2) (fun a r => r = .bool (againstB a.2.1.1 a.2.1.2 a.2.2.1 a.2.2.2))
theorem ok_is_against (T : Txt K mg) : FnOk P w K mg base CX0 1 T.A_is_against.f T.A_is_against.d ["first", "second", "pair"] (spAgainst K) := by
  refine T.A_is_against.F.ok sc_is_against (fun vs H Q E h => ?_) (fun cdv A outer s H vs Q E hr h => ?_)
  · obtain ⟨a, hd, _⟩ := h; exact hd.length
  · obtain ⟨⟨lt, ⟨M, N⟩, X, Y⟩, hd, ⟨o1, o2, sq⟩, q⟩ := h
    refine ⟨_, ((pss_cons (ps_setLc2 (i := 3) (own := [("p", 5), ("q", 6)]) (vs1 := [6]) (g := gName 5) (g1 := gName 6) (tt := tYes) (tt1 := tYes) rfl sc_is_against.nd rfl rfl (sw_true rfl rfl rfl (by decide +kernel)) (kiTup (K := K) (pe_ix (kIxT (K := K)) (pv 0) pe_int (fun _ _ => rfl))) (blkOk_by (own := [("p", 5), ("q", 6)]) (N := ["first", "second", "pair", "own", "other", "p", "q", "entry"]) (sc := defScope s_is_against) (by decide +kernel)) (by decide) (fun _ _ _ _ _ => (pg_name (i := 5) sc_is_against.nd rfl (.inl rfl))) (fun _ _ _ _ _ => pts_nil) (fun _ _ _ _ _ => (kiTup (K := K) (pe_ix (kIxT (K := K)) (pv 0) pe_int (fun _ _ => rfl)))) (fun _ _ _ _ _ => (pg_name (i := 6) sc_is_against.nd rfl (.inl rfl))) (fun _ _ _ _ _ => pts_nil) (fun _ _ _ _ _ => (pe_ix (kIxT (K := K)) (pe_ix (kIxT (K := K)) (pe_ix (kIxT (K := K)) (pv 2) pe_int (fun _ _ => rfl)) (pv 5) (fun _ _ => rfl)) (pv 6) (fun _ _ => rfl))))
  (pss_cons (ps_setLc2 (i := 4) (own := [("p", 5), ("q", 6)]) (vs1 := [6]) (g := gName 5) (g1 := gName 6) (tt := tYes) (tt1 := tYes) rfl sc_is_against.nd rfl rfl (sw_true rfl rfl rfl (by decide +kernel)) (kiTup (K := K) (pe_ix (kIxT (K := K)) (pv 1) pe_int (fun _ _ => rfl))) (blkOk_by (own := [("p", 5), ("q", 6)]) (N := ["first", "second", "pair", "own", "other", "p", "q", "entry"]) (sc := defScope s_is_against) (by decide +kernel)) (by decide) (fun _ _ _ _ _ => (pg_name (i := 5) sc_is_against.nd rfl (.inl rfl))) (fun _ _ _ _ _ => pts_nil) (fun _ _ _ _ _ => (kiTup (K := K) (pe_ix (kIxT (K := K)) (pv 1) pe_int (fun _ _ => rfl)))) (fun _ _ _ _ _ => (pg_name (i := 6) sc_is_against.nd rfl (.inl rfl))) (fun _ _ _ _ _ => pts_nil) (fun _ _ _ _ _ => (pe_ix (kIxT (K := K)) (pe_ix (kIxT (K := K)) (pe_ix (kIxT (K := K)) (pv 2) pe_int (fun _ _ => rfl)) (pv 5) (fun _ _ => rfl)) (pv 6) (fun _ _ => rfl))))
  (pss_one (ps_ret (pe_and (pe_callB (kAll (K := K)) (by rfl) T.n_all (by decide +kernel) (pa_cons (pe_lc (own := [("entry", 7)]) (g := gName 7) (tt := tYes) rfl sc_is_against.nd (kiList (K := K) (pv 3)) (blkOk_by (own := [("entry", 7)]) (N := ["first", "second", "pair", "own", "other", "p", "q", "entry"]) (sc := defScope s_is_against) (by decide +kernel)) (fun _ _ _ _ _ => (pg_name (i := 7) sc_is_against.nd rfl (.inl rfl))) (fun _ _ _ _ _ => pts_nil) (fun _ _ _ _ _ => (pe_cmpR op_ge (pv 7) (pe_glob (v := .int 2) rfl T.v_GROWING ⟨_, rfl⟩) (nomark _)))) pa_nil)) (pe_one (pe_callB (kAny (K := K)) (by rfl) T.n_any (by decide +kernel) (pa_cons (pe_lc (own := [("entry", 7)]) (g := gName 7) (tt := tYes) rfl sc_is_against.nd (kiList (K := K) (pv 4)) (blkOk_by (own := [("entry", 7)]) (N := ["first", "second", "pair", "own", "other", "p", "q", "entry"]) (sc := defScope s_is_against) (by decide +kernel)) (fun _ _ _ _ _ => (pg_name (i := 7) sc_is_against.nd rfl (.inl rfl))) (fun _ _ _ _ _ => pts_nil) (fun _ _ _ _ _ => (pe_cmpR op_lt (pv 7) (pe_glob (v := .int 2) rfl T.v_GROWING ⟨_, rfl⟩) (nomark _)))) pa_nil))))))))), ?_⟩
    obtain ⟨x0, x1, x2, rfl, h0, h1, h2⟩ := hd.three
    refine evq_setL (K := K) (evl_ways (X := X) o1 sq.x (evi_tup (evd_ixT (i := 2) (f := intsD (zs M.st)) (evd_v 0 rfl h0) evd_int rfl)).same (fun x H1 s => evi_tup (evd_ixT (i := 3) (f := intsD (zs M.en)) (evd_v 0 rfl (h0.mono s)) evd_int rfl)) fun p q x y H1 hp hq s dx dy => ?_) fun p1 xs1 H1 _ s1 e1 d1 => ?_
    · obtain ⟨row, hr1, hr2⟩ := row_get sq.x hp hq
      cases dx; cases dy
      exact evd_ixT (ds := row.map .int) (evd_ixT (ds := X.map intsD) (f := intsD row) (evd_fst (evd_v 2 rfl (h2.mono s))) (evd_v 5 rfl (.int (p : Nat))) (by rw [List.getElem?_map, hr1]; rfl)) (evd_v 6 rfl (.int (q : Nat))) (by rw [List.getElem?_map, hr2]; rfl)
    refine evq_setL (K := K) (evl_ways (X := Y) o2 sq.y (evi_tup (evd_ixT (i := 2) (f := intsD (zs N.st)) (evd_v 1 rfl (h1.mono s1)) evd_int rfl)).same (fun x H2 s => evi_tup (evd_ixT (i := 3) (f := intsD (zs N.en)) (evd_v 1 rfl ((h1.mono s1).mono s)) evd_int rfl)) fun p q x y H2 hp hq s dx dy => ?_) fun p2 xs2 H2 _ s2 e2 d2 => ?_
    · obtain ⟨row, hr1, hr2⟩ := row_get sq.y hp hq
      cases dx; cases dy
      exact evd_ixT (ds := row.map .int) (evd_ixT (ds := Y.map intsD) (f := intsD row) (evd_snd (evd_v 2 rfl ((h2.mono s1).mono s))) (evd_v 5 rfl (.int (p : Nat))) (by rw [List.getElem?_map, hr1]; rfl)) (evd_v 6 rfl (.int (q : Nat))) (by rw [List.getElem?_map, hr2]; rfl)
    have f1 : (waysL M X).length ≤ 10000 := ways_len o1 X
    have f2 : (waysL N Y).length ≤ 10000 := ways_len o2 Y
    refine evs_retD (d := .bool (againstB M N X Y)) (evd_is (evd_and (evd_all (bs := (waysL M X).map fun x => decide (x ≥ 2)) ((evl_mapG (K := K) (l := waysL M X) (g := .int) (f := fun x => .bool (decide (x ≥ 2))) (evi_listS (.inl (.inl (s2 _ _ e1))) (d1.mono s2) (evr_v 3 rfl)) (by omega) (fun a _ b _ e => by injection e with e; rw [e]) fun x y H3 _ s3 dy => evd_lt (g := fun i j => decide (i ≥ j)) (evd_v 7 rfl dy) evd_int).is (by rw [List.map_map]; rfl))) fun _ => evd_any (bs := (waysL N Y).map fun x => decide (x < 2)) ((evl_mapG (K := K) (l := waysL N Y) (g := .int) (f := fun x => .bool (decide (x < 2))) (evi_listS (.inl (.inl e2)) d2 (evr_v 4 rfl)) (by omega) (fun a _ b _ e => by injection e with e; rw [e]) fun x y H3 _ s3 dy => evd_lt (g := fun i j => decide (i < j)) (evd_v 7 rfl dy) evd_int).is (by rw [List.map_map]; rfl))) ?_) fun v H3 s3 p => q v H3 _ ((s1.trans s2).trans s3) p rfl
    congr 1
    unfold againstB Against
    rw [Bool.eq_iff_iff]
    simp only [Bool.and_eq_true, List.all_map, List.all_eq_true, List.any_map, List.any_eq_true, Function.comp, id, decide_eq_true_eq, mem_ways]
    constructor
    · rintro ⟨ha, x, ⟨p, hp, q, hq, rfl⟩, hx⟩
      exact ⟨fun p hp q hq => ha _ ⟨p, hp, q, hq, rfl⟩, p, hp, q, hq, hx⟩
    · rintro ⟨ha, p, hp, q, hq, hx⟩
      exact ⟨fun x ⟨p, hp, q, hq, e⟩ => e ▸ ha p hp q hq, _, ⟨p, hp, q, hq, rfl⟩, hx⟩
end
end Kw

set_option maxRecDepth 100000
set_option maxHeartbeats 2000000
/-! enumerate of a list that stands. -/
namespace KD
open PySem PySem.Spec PyProof.Rows L2
section
variable {X : Cx} {K : PySem.W.Frag} {o e value : Expr} {f : Str} {pos pos' : Pos} {ta tv : TE}
theorem kFld (he : PE X e ta) (hb : attributeBase e f X.env (eval e X.env) = eval e X.env) (hK : X.K = K := by rfl) : PE X (.Attribute e f pos) (tFld K ta f) := by subst hK; exact pe_fld he hb
theorem kSFld (ha : PE X o ta) (hv : PE X value tv) (hs : swapsWith value (some (.Attribute o f pos')) pos.line X.env = pure false) (hK : X.K = K := by rfl) : PS X (.Assign [.Attribute o f pos'] value pos) (sFld K ta tv f) := by subst hK; exact ps_fld ha hv hs
theorem kiEnum {e : Expr} {ta : TA} {p pos tpos : Pos} {elts : List Expr} {kk : Nat} (hg : Gl X "enumerate") (hm : X.mg "enumerate" = none) (ha : PA X [e] ta) (hK : X.K = K := by rfl) (hs : starEach [e] X.env = [(false, eval e X.env)] := by rfl) :
    PI X (.Tuple elts kk tpos) (.Call (.Name "enumerate" p) [e] [] pos) (iEnum K ta) := by subst hK; exact pi_enum hg hm ha hs
end
section
variable {K : PySem.W.Frag} {H : Hp} {σ : L2.St} {te : TE} {ds : List PyData}
theorem evi_enumF {p : Addr} {xs : List V} (hs : SqL K H p xs) (hd : DqAll K H xs ds) (ha : ∀ H1, Same H H1 → ∀ Q : VK, (∀ H2, Same H1 H2 → Q (.ref p) H2) → te σ H1 Q) :
    EvI (fun _ H' => SqL K H' p xs ∧ DqAll K H' xs ds) K (iEnum K (tCons te tNil)) σ H (enumD ds) := fun H1 s R q => ha H1 s _ fun H2 s2 => by
  have h1 : SqL K H2 p xs := sqL_same (s.trans s2) hs
  refine ⟨p, xs, rfl, h1, q _ H2 s2 ⟨fun H' k => ?_, fun i d H' e k => ?_, fun i d x H' H'' e k y => ?_⟩⟩
  · exact ⟨xs, k.1, by rw [k.2.length, enumD_length]; exact Nat.le_refl _⟩
  · have hi := (List.getElem?_eq_some_iff.mp e).1
    rw [enumD_length] at hi
    obtain ⟨v, hv, _⟩ := k.2.get (List.getElem?_eq_getElem hi)
    exact ⟨xs, v, k.1, hv⟩
  · have hi := (List.getElem?_eq_some_iff.mp e).1
    rw [enumD_length] at hi
    have he := List.getElem?_eq_getElem hi
    rw [enumD_get he] at e
    cases e
    obtain ⟨v, hv, hp⟩ := k.2.get he
    obtain ⟨T, x', rfl, hT, rfl, z⟩ := y
    have ex : x' = v := Option.some.inj ((z xs k.1).symm.trans hv)
    subst ex
    have sm := same_new (o := .tup [.int (i : Nat), x']) hT
    exact ⟨sm, .tup (.inl (.inl upd_same)) (.cons (.int _) (.one (hp.mono sm)))⟩
theorem gtup2_d {v : V} {i j : Nat} {a b : PyData} {Q : L2.St → Hp → Prop} (h : Dq K H v (.tuple [a, b])) (q : ∀ x y, Dq K H x a → Dq K H y b → Q ((σ.set i (some x)).set j (some y)) H) :
    gTup K 2 (gCons (gName i) (gCons (gName j) gNil)) v σ H Q := by
  obtain ⟨ad, xs, rfl, h1, h2⟩ := h.tupE
  obtain ⟨x, y, rfl, k1, k2⟩ := h2.two
  exact ⟨ad, _, rfl, h1, rfl, x, _, rfl, y, _, rfl, rfl, q x y k1 k2⟩
end
end KD

set_option maxRecDepth 100000
set_option maxHeartbeats 2000000
/-! The closure of pairs: what it stands as, and its add. -/
namespace Kw
open PySem PySem.Spec PyProof.Rows L2 KD Mx
theorem keyable_ints (n : Nat) (l : List Int) : keyableAll n (l.map .int) = true := by
  induction l with
  | nil => rfl
  | cons a l ih => rw [List.map_cons, keyableAll, ih]; cases n <;> rfl
theorem keyable_mat (A : Mat) : keyable 7 (matD A) = true := by
  unfold matD keyable
  induction A with
  | nil => rfl
  | cons a l ih =>
    rw [List.map_cons, keyableAll, ih, Bool.and_true]
    unfold intsD keyable
    exact keyable_ints _ _
theorem keyable_pair (X Y : Mat) : keyable 8 (pairD X Y) = true := by
  unfold pairD keyable keyableAll keyableAll keyableAll
  rw [keyable_mat, keyable_mat]; rfl
theorem pairD_inj {X Y X' Y' : Mat} (h : pairD X Y = pairD X' Y') : X = X' ∧ Y = Y' := by
  unfold pairD at h
  simp only [PyData.tuple.injEq, List.cons.injEq, and_true] at h
  exact ⟨matD_inj h.1, matD_inj h.2⟩
/-- where the parts of a closure stand -/
structure Ads where
  a : Addr
  dx : Addr
  F : Addr
  E : Addr
  D : Addr
  G : Addr
  T : Addr
def Ads.fs (A : Ads) : List (Str × V) := [("most", .int 500), ("found", .ref A.F), ("entries", .ref A.E), ("numbers", .ref A.D), ("makers", .ref A.G), ("met", .ref A.T)]
structure Stt where
  ks : List (PyData × Addr)
  es : List V
  gs : List Nat
  ms : List Nat
def natsV (l : List Nat) : List V := l.map fun i : Nat => V.int (i : Nat)
structure Clos (P : Program) (w : World) (K : PySem.W.Frag) (C : Addr) (I J : Mat → Mat → Prop) (A : Ads) (S : Stt) (H : Hp) : Prop where
  obj : H A.a = some (.ins C A.dx A.fs)
  fo : H A.F = some (.lst (S.ks.map fun x => V.ref x.2))
  en : H A.E = some (.lst S.es)
  nu : H A.D = some (NumT P w A.D S.ks)
  mkr : H A.G = some (.lst (natsV S.gs))
  me : H A.T = some (.lst (natsV S.ms))
  nd : [A.F, A.E, A.G, A.T].Nodup
  keys : KeysOk K H S.ks
  inI : ∀ x ∈ S.ks, ∃ X Y, x.1 = pairD X Y ∧ I X Y
  inJ : ∀ g ∈ S.gs, ∃ x X Y, S.ks[g]? = some x ∧ x.1 = pairD X Y ∧ J X Y
  esl : S.es.length = S.ks.length
  msl : S.ms.length = S.gs.length
  gsl : S.gs.length ≤ S.ks.length
  few : S.ks.length ≤ 500
/-- all but the closure's own parts stands -/
def Fr (A : Ads) (H H' : Hp) : Prop := ∀ b u, b ∉ [A.F, A.E, A.D, A.G, A.T] → H b = some u → H' b = some u
theorem Fr.refl (A : Ads) (H : Hp) : Fr A H H := fun _ _ _ h => h
theorem Fr.trans {A : Ads} {H H1 H2 : Hp} (a : Fr A H H1) (b : Fr A H1 H2) : Fr A H H2 := fun x u n h => b x u n (a x u n h)
theorem Fr.of {A : Ads} {H H' : Hp} (s : Same H H') : Fr A H H' := fun x u _ h => s x u h
theorem ne_kind {H : Hp} {p q : Addr} {u v : HO} (h1 : H p = some u) (h2 : H q = some v) (n : u ≠ v) : p ≠ q := fun e => by
  rw [e, h2] at h1
  exact n (Option.some.inj h1).symm
section
variable {P : Program} {w : World} {K : PySem.W.Frag} {C : Addr} {I J : Mat → Mat → Prop} {A : Ads} {S S' : Stt} {H H' : Hp}
theorem Clos.kp (c : Clos P w K C I J A S H) (c' : Clos P w K C I J A S' H') (f : Fr A H H') : Kp H H' := by
  have key : ∀ a, a ∈ [A.F, A.E, A.D, A.G, A.T] → (∃ xs ys, H a = some (.lst xs) ∧ H' a = some (.lst ys)) ∨ ∃ φ, H a = some (.ext φ) := fun a ha => by
    simp only [List.mem_cons, List.not_mem_nil, or_false] at ha
    rcases ha with rfl | rfl | rfl | rfl | rfl
    · exact .inl ⟨_, _, c.fo, c'.fo⟩
    · exact .inl ⟨_, _, c.en, c'.en⟩
    · exact .inr ⟨_, c.nu⟩
    · exact .inl ⟨_, _, c.mkr, c'.mkr⟩
    · exact .inl ⟨_, _, c.me, c'.me⟩
  have rd : ∀ a u, a ∉ [A.F, A.E, A.D, A.G, A.T] → Rd H a u → Rd H' a u := fun a u n r => by
    rcases r with r | ⟨o, r⟩
    · exact .inl (f a _ n r)
    · exact .inr ⟨o, f a _ n r⟩
  refine ⟨fun a xs r => ?_, fun a xs r => ?_⟩
  · by_cases h : a ∈ [A.F, A.E, A.D, A.G, A.T]
    · rcases key a h with ⟨ys, zs, e, _⟩ | ⟨φ, e⟩ <;> rcases r with r | ⟨o, r⟩ <;> (rw [e] at r; cases r)
    · exact rd a _ h r
  · by_cases h : a ∈ [A.F, A.E, A.D, A.G, A.T]
    · rcases key a h with ⟨ys, zs, e, e'⟩ | ⟨φ, e⟩
      · exact ⟨zs, .inl e'⟩
      · rcases r with r | ⟨o, r⟩ <;> (rw [e] at r; cases r)
    · exact ⟨xs, rd a _ h r⟩
theorem Clos.same (c : Clos P w K C I J A S H) (s : Same H H') : Clos P w K C I J A S H' :=
  ⟨s _ _ c.obj, s _ _ c.fo, s _ _ c.en, s _ _ c.nu, s _ _ c.mkr, s _ _ c.me, c.nd, c.keys.mono s, c.inI, c.inJ, c.esl, c.msl, c.gsl, c.few⟩
structure Ads.Ne (A : Ads) : Prop where
  aF : A.a ≠ A.F
  aE : A.a ≠ A.E
  aD : A.a ≠ A.D
  aG : A.a ≠ A.G
  aT : A.a ≠ A.T
  DF : A.D ≠ A.F
  DE : A.D ≠ A.E
  DG : A.D ≠ A.G
  DT : A.D ≠ A.T
  FE : A.F ≠ A.E
  FG : A.F ≠ A.G
  FT : A.F ≠ A.T
  EG : A.E ≠ A.G
  ET : A.E ≠ A.T
  GT : A.G ≠ A.T
theorem Clos.ne (c : Clos P w K C I J A S H) : A.Ne := by
  have nd := c.nd
  simp only [List.nodup_cons, List.mem_cons, List.not_mem_nil, or_false, not_or, not_false_eq_true, List.nodup_nil, and_true] at nd
  exact ⟨ne_kind c.obj c.fo fun z => (nomatch z), ne_kind c.obj c.en fun z => (nomatch z), ne_kind c.obj c.nu fun z => (nomatch z), ne_kind c.obj c.mkr fun z => (nomatch z), ne_kind c.obj c.me fun z => (nomatch z),
    ne_kind c.nu c.fo fun z => (nomatch z), ne_kind c.nu c.en fun z => (nomatch z), ne_kind c.nu c.mkr fun z => (nomatch z), ne_kind c.nu c.me fun z => (nomatch z), nd.1.1, nd.1.2.1, nd.1.2.2, nd.2.1.1, nd.2.1.2, nd.2.2⟩
theorem fld_at {σ : L2.St} {i : Nat} {f : Str} {v : V} {Q : VK} (o : H A.a = some (.ins C A.dx A.fs)) (cl : Cls K C) (na : NoAttr K C f) (hv : σ[i]? = some (some (.ref A.a))) (l : A.fs.lookup f = some v) (q : Q v H) : tFld K (tVar i) f σ H Q :=
  ⟨_, hv, A.a, C, A.dx, _, v, rfl, o, cl, na, l, q⟩
end
section
variable {P : Program} {w : World} {K : PySem.W.Frag} {mg : Str → Option Value} {base : Heap}
/-- a value at once -/
def At1 (te : TE) (σ : L2.St) (H : Hp) (v : V) : Prop := ∀ Q : VK, Q v H → te σ H Q
theorem at_v {σ : L2.St} {H : Hp} {v : V} (i : Nat) (h : σ[i]? = some (some v)) : At1 (tVar i) σ H v := fun Q q => ⟨v, h, q⟩
theorem evq_appV {σ : L2.St} {H : Hp} {ta te : TE} {u : TS} {D : Ends} {p : Addr} {xs : List V} {v : V} (hp : H p = some (.lst xs)) (hl : xs.length ≤ 100000) (ha : At1 ta σ H (.ref p)) (h : At1 te σ H v) (q : u D σ (upd H p (.lst (xs ++ [v])))) : tSeq (tDrop (tBM K "list" rAppend ta (tCons te tNil))) u D σ H :=
  ha _ ⟨.inl ⟨rfl, xs, .inl (.inl hp)⟩, h _ ⟨p, xs, v, rfl, rfl, hp, len100 hl, q⟩⟩
theorem evs_appV {σ : L2.St} {H : Hp} {ta te : TE} {D : Ends} {p : Addr} {xs : List V} {v : V} (hp : H p = some (.lst xs)) (hl : xs.length ≤ 100000) (ha : At1 ta σ H (.ref p)) (h : At1 te σ H v) (q : D.nx σ (upd H p (.lst (xs ++ [v])))) : tDrop (tBM K "list" rAppend ta (tCons te tNil)) D σ H :=
  ha _ ⟨.inl ⟨rfl, xs, .inl (.inl hp)⟩, h _ ⟨p, xs, v, rfl, rfl, hp, len100 hl, q⟩⟩
/-- what add does of a pair -/
def Stt.more (S : Stt) (d : PyData) (b : Addr) (ev : V) : Stt := ⟨S.ks ++ [(d, b)], S.es ++ [ev], S.gs, S.ms⟩
def spAdd (P : Program) (w : World) (K : PySem.W.Frag) (C X : Addr) : Sp := fun vs H Q E => ∃ (I J : Mat → Mat → Prop) (A : Ads) (S : Stt) (b : Addr) (Y Z : Mat) (ev : V), vs = [.ref A.a, .ref b, ev] ∧ Clos P w K C I J A S H ∧ Dq K H (.ref b) (pairD Y Z) ∧ I Y Z ∧
  (pairD Y Z ∈ S.ks.map (·.1) → ∀ H', Same H H' → Q (.bl false) H') ∧
  (pairD Y Z ∉ S.ks.map (·.1) → ∀ H', Fr A H H' → Clos P w K C I J A (S.more (pairD Y Z) b ev) H' → Q (.bl true) H') ∧ ∀ H', E (.ref X) none H'
theorem ok_PairClosure_add (T : Txt K mg) : FnOk P w K mg base (L2.CX P w) 1 T.A_PairClosure_add.f T.A_PairClosure_add.d ["self", "pair", "entry"] (spAdd P w K T.O_PairClosure.C T.X_TooGreat.C) := by
  refine T.A_PairClosure_add.F.okX sc_PairClosure_add (fun vs H Q E h => ?_) (fun cdv A outer s H vs Q E hr h => ?_)
  · obtain ⟨_, _, _, _, _, _, _, _, rfl, _⟩ := h; rfl
  · obtain ⟨I, J, A, S, b, Y, Z, ev, rfl, c, hb, hI, qy, qn, qe⟩ := h
    refine ⟨_, ((pss_cons (ps_if (pt_cmp (pc_hin (K := K) (P := P) (w := w) (hu64 hr) (pv 1) (kFld (K := K) (pv 0) rfl))) (pss_one (ps_ret pe_bl)) pss_nil)
  (pss_cons (ps_if (pt_cmpR op_eq (pe_callB (kLen (K := K)) (by rfl) T.n_len (by decide +kernel) (pa_cons (kFld (K := K) (pv 0) rfl) pa_nil)) (kFld (K := K) (pv 0) rfl) (nomark _)) (pss_one (ps_raise rfl (takes_of rfl rfl rfl rfl) (pmk_own PySem.F.excBase_ValueError T.X_TooGreat.ex T.X_TooGreat.g T.X_TooGreat.k (raises_own T.X_TooGreat.sB T.X_TooGreat.ty) (by rfl)))) pss_nil)
  (pss_cons (ps_hput (K := K) (P := P) (w := w) (hu64 hr) (kFld (K := K) (pv 0) rfl) (pv 1) (pe_callB (kLen (K := K)) (by rfl) T.n_len (by decide +kernel) (pa_cons (kFld (K := K) (pv 0) rfl) pa_nil)) rfl)
  (pss_cons (ps_expr (pe_bm PySem.F.plainAttrs_list PySem.F.slot_list_append PySem.F.type_list_append mt_append (kFld (K := K) (pv 0) rfl) (pa_cons (pv 1) pa_nil)))
  (pss_cons (ps_expr (pe_bm PySem.F.plainAttrs_list PySem.F.slot_list_append PySem.F.type_list_append mt_append (kFld (K := K) (pv 0) rfl) (pa_cons (pv 2) pa_nil)))
  (pss_one (ps_ret pe_bl)))))))), ?_⟩
    have cl := T.O_PairClosure.cl
    have kd := keyable_pair Y Z
    have n := c.ne
    refine evq_ifn (b := decide (pairD Y Z ∈ S.ks.map (·.1))) (fun H1 s1 Q1 q1 => ⟨_, rfl, fld_at (c.same s1).obj cl T.f_PairClosure_numbers rfl rfl ⟨A.D, S.ks, pairD Y Z, b, rfl, (c.same s1).nu, (c.same s1).keys, rfl, hb.mono s1, kd, _, rfl, q1 H1 (Same.refl _)⟩⟩) (fun hb H1 s1 => ?_) fun hn H1 s1 => ?_
    · exact qy (of_decide_eq_true hb) H1 s1
    have nin := of_decide_eq_false hn
    have c1 := c.same s1
    refine evq_ifn (b := decide ((S.ks.length : Int) = 500)) (fun H2 s2 Q2 q2 => fld_at (c1.same s2).obj cl T.f_PairClosure_found rfl rfl ⟨A.F, _, rfl, .inl (.inl (.inl (c1.same s2).fo)), fld_at (c1.same s2).obj cl T.f_PairClosure_most rfl rfl ?_⟩) (fun hb H2 s2 => ?_) fun hn2 H2 s2 => ?_
    · refine ⟨rfl, _, rfl, ?_⟩
      have e : decide (V.int ((S.ks.map fun x => V.ref x.2).length : Nat) = V.int 500) = decide ((S.ks.length : Int) = 500) := by
        rw [decide_eq_decide, List.length_map]
        exact ⟨fun z => by injection z, fun z => by rw [z]⟩
      exact e ▸ q2 H2 (Same.refl _)
    · exact qe H2
    have c2 := c1.same s2
    have lt : S.ks.length < 500 := by
      have := of_decide_eq_false hn2
      have := c.few
      omega
    refine fld_at c2.obj cl T.f_PairClosure_found rfl rfl ⟨A.F, _, rfl, .inl (.inl (.inl c2.fo)), ?_⟩
    refine fld_at c2.obj cl T.f_PairClosure_numbers rfl rfl ⟨_, rfl, A.D, S.ks, pairD Y Z, b, rfl, c2.nu, c2.keys, rfl, hb.mono (s1.trans s2), kd, by simp, by omega, nin, ?_⟩
    have o3 : (upd H2 A.D (NumT P w A.D (S.ks ++ [(pairD Y Z, b)]))) A.a = some (.ins T.O_PairClosure.C A.dx A.fs) := by rw [upd_ne n.aD]; exact c2.obj
    have f3 : (upd H2 A.D (NumT P w A.D (S.ks ++ [(pairD Y Z, b)]))) A.F = some (.lst (S.ks.map fun x => V.ref x.2)) := by rw [upd_ne n.DF.symm]; exact c2.fo
    refine evq_appV (K := K) f3 (by rw [List.length_map]; omega) (fun Q q => fld_at o3 cl T.f_PairClosure_found rfl rfl q) (at_v 1 rfl) ?_
    have e4 : ∀ x, (S.ks.map fun x => V.ref x.2) ++ [V.ref b] = x → (upd (upd H2 A.D (NumT P w A.D (S.ks ++ [(pairD Y Z, b)]))) A.F (.lst x)) A.E = some (.lst S.es) := fun x _ => by rw [upd_ne n.FE.symm, upd_ne n.DE.symm]; exact c2.en
    have o4 : ∀ x, (upd (upd H2 A.D (NumT P w A.D (S.ks ++ [(pairD Y Z, b)]))) A.F x) A.a = some (.ins T.O_PairClosure.C A.dx A.fs) := fun x => by rw [upd_ne n.aF]; exact o3
    refine evq_appV (K := K) (e4 _ rfl) (by rw [c.esl]; omega) (fun Q q => fld_at (o4 _) cl T.f_PairClosure_entries rfl rfl q) (at_v 2 rfl) ?_
    have k3 : Kp H2 (upd H2 A.D (NumT P w A.D (S.ks ++ [(pairD Y Z, b)]))) := .store fun u e => by
      rw [c2.nu] at e
      cases e
      exact ⟨fun _ z => (nomatch z), fun _ _ z => (nomatch z), fun ⟨_, z⟩ => (nomatch z)⟩
    have kp := ((Kp.of (s1.trans s2)).trans k3).trans ((Kp.updL (ys := (S.ks.map fun x => V.ref x.2) ++ [V.ref b]) f3).trans (Kp.updL (ys := S.es ++ [ev]) (e4 _ rfl)))
    refine qn nin _ (fun x u hx h => ?_) ⟨?_, ?_, ?_, ?_, ?_, ?_, c.nd, fun x hx => ?_, fun x hx => ?_, fun g hg => ?_, ?_, c.msl, ?_, ?_⟩
    · simp only [List.mem_cons, List.not_mem_nil, or_false, not_or] at hx
      rw [upd_ne hx.2.1, upd_ne hx.1, upd_ne hx.2.2.1]
      exact s2 _ _ (s1 _ _ h)
    · rw [upd_ne n.aE, upd_ne n.aF]; exact o3
    · rw [upd_ne n.FE, upd_same, Stt.more, List.map_append]; rfl
    · rw [upd_same]; rfl
    · rw [upd_ne n.DE, upd_ne n.DF, upd_same]; rfl
    · rw [upd_ne n.EG.symm, upd_ne n.FG.symm, upd_ne n.DG.symm]; exact c2.mkr
    · rw [upd_ne n.ET.symm, upd_ne n.FT.symm, upd_ne n.DT.symm]; exact c2.me
    · rcases List.mem_append.mp hx with hx | hx
      · exact ⟨(c.keys x hx).1.kp kp, (c.keys x hx).2⟩
      · simp at hx
        subst hx
        exact ⟨hb.kp kp, kd⟩
    · rcases List.mem_append.mp hx with hx | hx
      · exact c.inI x hx
      · simp at hx
        subst hx
        exact ⟨Y, Z, rfl, hI⟩
    · obtain ⟨x, X1, Y1, e, e1, j⟩ := c.inJ g hg
      exact ⟨x, X1, Y1, by rw [Stt.more, List.getElem?_append_left (List.getElem?_eq_some_iff.mp e).1]; exact e, e1, j⟩
    · simp [Stt.more, c.esl]
    · have := c.gsl
      simp only [Stt.more, List.length_append, List.length_cons, List.length_nil]
      omega
    · simp only [Stt.more, List.length_append, List.length_cons, List.length_nil]
      omega
end
end Kw

set_option maxRecDepth 100000
set_option maxHeartbeats 2000000
/-! The closure's make and multiply. -/
namespace Kw
open PySem PySem.Spec PyProof.Rows L2 KD Mx
def Gro (S S' : Stt) : Prop := ∃ l, S'.ks = S.ks ++ l
theorem Gro.refl (S : Stt) : Gro S S := ⟨[], by simp⟩
theorem Gro.trans {S S' S'' : Stt} (a : Gro S S') (b : Gro S' S'') : Gro S S'' := by
  obtain ⟨l, e⟩ := a
  obtain ⟨l', e'⟩ := b
  exact ⟨l ++ l', by rw [e', e, List.append_assoc]⟩
theorem Gro.len {S S' : Stt} (a : Gro S S') : S.ks.length ≤ S'.ks.length := by
  obtain ⟨l, e⟩ := a
  rw [e, List.length_append]; omega
theorem Gro.mem {S S' : Stt} {d : PyData} (a : Gro S S') (h : d ∈ S.ks.map (·.1)) : d ∈ S'.ks.map (·.1) := by
  obtain ⟨l, e⟩ := a
  rw [e, List.map_append]
  exact List.mem_append_left _ h
theorem Gro.more {S : Stt} {d : PyData} {b : Addr} {ev : V} : Gro S (S.more d b ev) := ⟨_, rfl⟩
theorem natsV_get {l : List Nat} {i n : Nat} (h : l[i]? = some n) : (natsV l)[i]? = some (.int (n : Nat)) := by
  unfold natsV
  rw [List.getElem?_map, h]; rfl
section
variable {P : Program} {w : World} {K : PySem.W.Frag} {C : Addr} {I J : Mat → Mat → Prop} {A : Ads} {S S' : Stt} {H H' : Hp}
theorem Clos.get (c : Clos P w K C I J A S H) {i : Nat} (h : i < S.ks.length) : ∃ b X Y, (S.ks.map fun x => V.ref x.2)[i]? = some (.ref b) ∧ Dq K H (.ref b) (pairD X Y) ∧ I X Y ∧ ∃ x, S.ks[i]? = some x ∧ x.1 = pairD X Y := by
  have e := List.getElem?_eq_getElem h
  obtain ⟨X, Y, e1, hI⟩ := c.inI _ (List.getElem_mem h)
  refine ⟨_, X, Y, by rw [List.getElem?_map, e]; rfl, ?_, hI, _, e, e1⟩
  rw [← e1]
  exact (c.keys _ (List.getElem_mem h)).1
theorem keys_all {ks : List (PyData × Addr)} (k : KeysOk K H ks) : DqAll K H (ks.map fun x => V.ref x.2) (ks.map (·.1)) := by
  induction ks with
  | nil => exact .nil
  | cons x l ih => exact .cons (k x List.mem_cons_self).1 (ih fun y hy => k y (List.mem_cons_of_mem _ hy))
theorem nats_all (l : List Nat) : DqAll K H (natsV l) (l.map fun i : Nat => .int (i : Nat)) := by
  have := DqAll.ints (K := K) (H := H) (zs l)
  unfold zs at this
  rw [List.map_map, List.map_map] at this
  exact this
theorem fld_ref {σ : L2.St} {i : Nat} {f : Str} {p : Addr} (o : H A.a = some (.ins C A.dx A.fs)) (cl : Cls K C) (na : NoAttr K C f) (hv : σ[i]? = some (some (.ref A.a))) (l : A.fs.lookup f = some (.ref p)) : Ref (tFld K (tVar i) f) σ H p :=
  fun H1 s Q q => fld_at (s _ _ o) cl na hv l (q H1 (Same.refl _))
theorem evq_augL {σ : L2.St} {ta ti : TE} {u : TS} {D : Ends} {p : Addr} {xs : List V} {i : Nat} {a b : Int} (hp : H p = some (.lst xs)) (ha : At1 ta σ H (.ref p)) (hi : At1 ti σ H (.int (i : Nat))) (hx : xs[i]? = some (.int a)) (q : u D σ (upd H p (.lst (xs.set i (.int (a + b)))))) :
    tSeq (tAugS ta ti (tC (.int b)) (rIxL K) (ipI fun i j => i + j) rSetL) u D σ H :=
  ha _ (hi _ ⟨p, xs, _, _, rfl, rfl, .inl (.inl hp), atI_nat hx, ⟨a, b, rfl, rfl, p, xs, _, i, rfl, rfl, hp, Evl.ixN_nat (List.getElem?_eq_some_iff.mp hx).1, q⟩⟩)
theorem evs_meth {σ : L2.St} {ta : TE} {t : TA} {D : Ends} {m : Str} {sp : Sp} {E : XK} {a dx : Addr} {fs : List (Str × V)} (ha : At1 ta σ H (.ref a)) (ho : H a = some (.ins C dx fs)) (hl : fs.lookup m = none) (h : t σ H fun vs H2 => sp (.ref a :: (vs ++ [])) H2 (fun _ H3 => D.nx σ H3) E) : tDrop (tMeth C m sp [] E ta t) D σ H :=
  ha _ ⟨a, dx, fs, rfl, ho, hl, h⟩
theorem evq_meth {σ : L2.St} {ta : TE} {t : TA} {D : Ends} {u : TS} {m : Str} {sp : Sp} {E : XK} {a dx : Addr} {fs : List (Str × V)} (ha : At1 ta σ H (.ref a)) (ho : H a = some (.ins C dx fs)) (hl : fs.lookup m = none) (h : t σ H fun vs H2 => sp (.ref a :: (vs ++ [])) H2 (fun _ H3 => u D σ H3) E) : tSeq (tDrop (tMeth C m sp [] E ta t)) u D σ H :=
  ha _ ⟨a, dx, fs, rfl, ho, hl, h⟩
/-- met[i] = m -/
theorem Clos.setMet (c : Clos P w K C I J A S H) {i m : Nat} : Clos P w K C I J A { S with ms := S.ms.set i m } (upd H A.T (.lst ((natsV S.ms).set i (.int (m : Nat))))) ∧ Fr A H (upd H A.T (.lst ((natsV S.ms).set i (.int (m : Nat))))) := by
  have n := c.ne
  refine ⟨⟨?_, ?_, ?_, ?_, ?_, ?_, c.nd, c.keys.kp (Kp.updL c.me), c.inI, c.inJ, c.esl, by rw [List.length_set]; exact c.msl, c.gsl, c.few⟩, fun x u hx h => ?_⟩
  · rw [upd_ne n.aT]; exact c.obj
  · rw [upd_ne n.FT]; exact c.fo
  · rw [upd_ne n.ET]; exact c.en
  · rw [upd_ne n.DT]; exact c.nu
  · rw [upd_ne n.GT]; exact c.mkr
  · rw [upd_same, natsV, natsV, List.map_set]
  · simp only [List.mem_cons, List.not_mem_nil, or_false, not_or] at hx
    rw [upd_ne hx.2.2.2.2]; exact h
/-- makers.append(g); met.append(0) -/
theorem Clos.maker (c : Clos P w K C I J A S H) {g : Nat} (hg : ∃ x X Y, S.ks[g]? = some x ∧ x.1 = pairD X Y ∧ J X Y) (hl : S.gs.length < S.ks.length) :
    Clos P w K C I J A { S with gs := S.gs ++ [g], ms := S.ms ++ [0] } (upd (upd H A.G (.lst (natsV S.gs ++ [.int (g : Nat)]))) A.T (.lst (natsV S.ms ++ [.int ((0 : Nat) : Int)]))) ∧ Fr A H (upd (upd H A.G (.lst (natsV S.gs ++ [.int (g : Nat)]))) A.T (.lst (natsV S.ms ++ [.int ((0 : Nat) : Int)]))) := by
  have n := c.ne
  have t1 : (upd H A.G (.lst (natsV S.gs ++ [.int (g : Nat)]))) A.T = some (.lst (natsV S.ms)) := by rw [upd_ne n.GT.symm]; exact c.me
  have kp : Kp H (upd (upd H A.G (.lst (natsV S.gs ++ [.int (g : Nat)]))) A.T (.lst (natsV S.ms ++ [.int ((0 : Nat) : Int)]))) := (Kp.updL c.mkr).trans (Kp.updL t1)
  refine ⟨⟨?_, ?_, ?_, ?_, ?_, ?_, c.nd, c.keys.kp kp, c.inI, fun g' h => ?_, c.esl, by simp [c.msl], by simp; omega, c.few⟩, fun x u hx h => ?_⟩
  · rw [upd_ne n.aT, upd_ne n.aG]; exact c.obj
  · rw [upd_ne n.FT, upd_ne n.FG]; exact c.fo
  · rw [upd_ne n.ET, upd_ne n.EG]; exact c.en
  · rw [upd_ne n.DT, upd_ne n.DG]; exact c.nu
  · rw [upd_ne n.GT, upd_same, natsV, natsV, List.map_append]; rfl
  · rw [upd_same, natsV, natsV, List.map_append]; rfl
  · rcases List.mem_append.mp h with h | h
    · exact c.inJ g' h
    · simp at h
      subst h
      exact hg
  · simp only [List.mem_cons, List.not_mem_nil, or_false, not_or] at hx
    rw [upd_ne hx.2.2.2.2, upd_ne hx.2.2.2.1]; exact h
end
section
variable {P : Program} {w : World} {K : PySem.W.Frag} {mg : Str → Option Value} {base : Heap}
def spMakeP (P : Program) (w : World) (K : PySem.W.Frag) (C X : Addr) : Sp := fun vs H Q E => ∃ (I J : Mat → Mat → Prop) (A : Ads) (S : Stt) (b : Addr) (Y Z : Mat) (ev : V), vs = [.ref A.a, .ref b, ev] ∧ Clos P w K C I J A S H ∧ Dq K H (.ref b) (pairD Y Z) ∧ I Y Z ∧ (J Y Z ∨ pairD Y Z ∈ S.ks.map (·.1)) ∧
  (∀ H' S', Fr A H H' → Clos P w K C I J A S' H' → Gro S S' → Q .non H') ∧ ∀ H', E (.ref X) none H'
theorem ok_PairClosure_make (T : Txt K mg) : FnOk P w K mg base (L2.CX P w) 2 T.A_PairClosure_make.f T.A_PairClosure_make.d ["self", "pair", "entry"] (spMakeP P w K T.O_PairClosure.C T.X_TooGreat.C) := by
  refine T.A_PairClosure_make.F.okX sc_PairClosure_make (fun vs H Q E h => ?_) (fun cdv A outer s H vs Q E hr h => ?_)
  · obtain ⟨_, _, _, _, _, _, _, _, rfl, _⟩ := h; rfl
  · obtain ⟨I, J, A, S, b, Y, Z, ev, rfl, c, hb, hI, hj, q, qe⟩ := h
    refine ⟨_, ((pss_one (ps_if (pt_val (pe_meth (pv 0) T.O_PairClosure.cl T.A_PairClosure_add.m (ok_PairClosure_add T) (hr.mono (by decide)) T.A_PairClosure_add.b .nil (passes_call (takes_of rfl rfl rfl rfl) (fun _ _ _ _ h => h)) (pa_cons (pv 1) (pa_cons (pv 2) pa_nil)))) (pss_cons (ps_expr (pe_bm PySem.F.plainAttrs_list PySem.F.slot_list_append PySem.F.type_list_append mt_append (kFld (K := K) (pv 0) rfl) (pa_cons (pe_hget (K := K) (P := P) (w := w) (hu64 hr) (kFld (K := K) (pv 0) rfl) (pv 1) (fun _ _ => rfl)) pa_nil)))
  (pss_one (ps_expr (pe_bm PySem.F.plainAttrs_list PySem.F.slot_list_append PySem.F.type_list_append mt_append (kFld (K := K) (pv 0) rfl) (pa_cons pe_int pa_nil))))) pss_nil))), ?_⟩
    have cl := T.O_PairClosure.cl
    have kd := keyable_pair Y Z
    refine ⟨_, rfl, A.a, A.dx, A.fs, rfl, c.obj, rfl, _, rfl, _, rfl, I, J, A, S, b, Y, Z, ev, rfl, c, hb, hI, fun hin H1 s1 => ⟨_, rfl, ?_⟩, fun hn H1 f1 c1 => ⟨_, rfl, ?_⟩, qe⟩
    · exact q H1 S (.of s1) (c.same s1) (.refl S)
    · have n := c1.ne
      have hJ : J Y Z := hj.resolve_right hn
      have hb1 : Dq K H1 (.ref b) (pairD Y Z) := hb.kp (c.kp c1 f1)
      have lt : S.ks.length < (S.more (pairD Y Z) b ev).ks.length := by simp [Stt.more]
      have at_ : (S.more (pairD Y Z) b ev).ks[S.ks.length]? = some (pairD Y Z, b) := by simp [Stt.more]
      have gl := c1.gsl
      have fw := c1.few
      refine evq_appV (K := K) (v := .int (S.ks.length : Nat)) c1.mkr (by rw [natsV, List.length_map]; omega) (fun Q q => fld_at c1.obj cl T.f_PairClosure_makers rfl rfl q) (fun Q q => fld_at c1.obj cl T.f_PairClosure_numbers rfl rfl ⟨_, rfl, A.D, _, pairD Y Z, b, S.ks.length, rfl, c1.nu, c1.keys, rfl, hb1, kd, by rw [List.getElem?_map, at_]; rfl, q⟩) ?_
      obtain ⟨c2, f2⟩ := c1.maker (g := S.ks.length) ⟨_, Y, Z, at_, rfl, hJ⟩ (by have := c.gsl; show S.gs.length < _; omega)
      refine evs_appV (K := K) (v := .int 0) (xs := natsV (S.more (pairD Y Z) b ev).ms) (by rw [upd_ne n.GT.symm]; exact c1.me) (by rw [natsV, List.length_map, c1.msl]; omega) (fun Q q => fld_at (A := A) (by rw [upd_ne n.aG]; exact c1.obj) cl T.f_PairClosure_met rfl rfl q) (fun Q q => q) ?_
      exact q _ _ (f1.trans f2) c2 ⟨_, rfl⟩
/-- what products of the closure are in -/
structure Mul (n m : Nat) (I J : Mat → Mat → Prop) : Prop where
  sz : SzOk n m
  sq : ∀ X Y, I X Y → PSq n m X Y
  sub : ∀ X Y, J X Y → I X Y
  times : ∀ X Y X' Y', I X Y → J X' Y' → I (times n X X') (times m Y Y')
def spMultiply (P : Program) (w : World) (K : PySem.W.Frag) (C X : Addr) : Sp := fun vs H Q E => ∃ (n m : Nat) (I J : Mat → Mat → Prop) (A : Ads) (S : Stt), vs = [.ref A.a] ∧ Mul n m I J ∧ Clos P w K C I J A S H ∧
  (∀ H' S', Fr A H H' → Clos P w K C I J A S' H' → Gro S S' → Q .non H') ∧ ∀ H', E (.ref X) none H'
theorem ok_PairClosure_multiply (T : Txt K mg) : FnOk P w K mg base (L2.CX P w) 5 T.A_PairClosure_multiply.f T.A_PairClosure_multiply.d ["self"] (spMultiply P w K T.O_PairClosure.C T.X_TooGreat.C) := by
  refine T.A_PairClosure_multiply.F.okX sc_PairClosure_multiply (fun vs H Q E h => ?_) (fun cdv A outer s H vs Q E hr h => ?_)
  · obtain ⟨_, _, _, _, _, _, rfl, _⟩ := h; rfl
  · obtain ⟨n, m, I, J, A, S, rfl, mu, c, q, qe⟩ := h
    refine ⟨_, ((pss_one (ps_for (passes_of rfl) rfl (kiEnum (K := K) (by rfl) T.n_enumerate (pa_cons (kFld (K := K) (pv 0) rfl) pa_nil)) (kgTup (K := K) rfl (pgs_cons (pg_name (i := 1) sc_PairClosure_multiply.nd rfl (.inl rfl)) (pgs_cons (pg_name (i := 2) sc_PairClosure_multiply.nd rfl (.inl rfl)) pgs_nil)))
    (pss_one (ps_while (passes_of rfl) (pt_cmpR op_lt (pe_ix (kIxL (K := K)) (kFld (K := K) (pv 0) rfl) (pv 1) (fun _ _ => rfl)) (pe_callB (kLen (K := K)) (by rfl) T.n_len (by decide +kernel) (pa_cons (kFld (K := K) (pv 0) rfl) pa_nil)) (nomark _))
    (pss_cons (ps_set (i := 3) sc_PairClosure_multiply.nd rfl (.inl rfl) (pe_ix (kIxL (K := K)) (kFld (K := K) (pv 0) rfl) (pv 1) (fun _ _ => rfl)))
  (pss_cons (ps_augS (kFld (K := K) (pv 0) rfl) (pv 1) (kGetL (K := K)) pe_int ip_add set_list)
  (pss_one (ps_expr (pe_meth (pv 0) T.O_PairClosure.cl T.A_PairClosure_add.m (ok_PairClosure_add T) (hr.mono (by decide)) T.A_PairClosure_add.b .nil (passes_call (takes_of rfl rfl rfl rfl) (fun _ _ _ _ h => h)) (pa_cons (pe_call (ok_pair_times T) (hr.mono (by decide)) (by rfl) T.A_pair_times.g T.A_pair_times.F.kp T.A_pair_times.b .nil pass0 (pa_cons (pe_ix (kIxL (K := K)) (kFld (K := K) (pv 0) rfl) (pv 3) (fun _ _ => rfl)) (pa_cons (pe_ix (kIxL (K := K)) (kFld (K := K) (pv 0) rfl) (pv 2) (fun _ _ => rfl)) pa_nil))) (pa_cons (pe_tup (pa_cons pe_str (pa_cons (pv 3) (pa_cons (pv 2) pa_nil)))) pa_nil)))))))))))), ?_⟩
    have cl := T.O_PairClosure.cl
    have dg : ∀ H', DqAll K H' (natsV S.gs) (S.gs.map fun i : Nat => .int (i : Nat)) := fun H' => by
      have := DqAll.ints (K := K) (H := H') (zs S.gs)
      unfold zs at this
      rw [List.map_map, List.map_map] at this
      exact this
    refine evs_forG (K := K) (evi_enumF (.inl (.inl c.mkr)) (dg H) fun H1 s1 Q1 q1 => fld_at (c.same s1).obj cl T.f_PairClosure_makers rfl rfl (q1 H1 (Same.refl _))) (fun _ i σ' H' => ∃ s1 s2 s3 S', σ' = [some (.ref A.a), s1, s2, s3] ∧ Fr A H H' ∧ Clos P w K T.O_PairClosure.C I J A S' H' ∧ Gro S S' ∧ S'.gs = S.gs)
      (fun H2 i σ' H' _ _ pv => ?_) (fun H2 s2 => ⟨_, _, _, S, rfl, .of s2, c.same s2, .refl S, rfl⟩) (fun H2 i d σ' H' x H'' s2 hd pv s3 dx => ?_) fun H2 σ' H' s2 pv => ?_
    · obtain ⟨_, _, _, S', _, _, c', _, e⟩ := pv
      refine ⟨.inl (.inl ?_), dg H'⟩
      rw [← e]; exact c'.mkr
    · obtain ⟨t1, t2, t3, S', rfl, f', c', g', e⟩ := pv
      have hi : i < S.gs.length := by
        have := (List.getElem?_eq_some_iff.mp hd).1
        rw [enumD_length, List.length_map] at this
        exact this
      have hg : S.gs[i]? = some S.gs[i] := List.getElem?_eq_getElem hi
      rw [enumD_get (d := .int (S.gs[i] : Nat)) (by rw [List.getElem?_map, hg]; rfl)] at hd
      cases hd
      obtain ⟨xg, X', Y', eg, eg1, hJ⟩ := c'.inJ S.gs[i] (by rw [e]; exact List.getElem_mem hi)
      refine gtup2_d dx fun y z dy dz => ?_
      cases dy; cases dz
      refine ⟨fun mm σ1 H1 => ∃ u3 S1 mk, σ1 = [some (.ref A.a), some (.int (i : Nat)), some (.int (S.gs[i] : Nat)), u3] ∧ Fr A H H1 ∧ Clos P w K T.O_PairClosure.C I J A S1 H1 ∧ Gro S' S1 ∧ S1.gs = S.gs ∧ S1.ms[i]? = some mk ∧ mm = 500 - mk, ?_, ?_⟩
      · have hm : i < S'.ms.length := by rw [c'.msl, e]; exact hi
        exact ⟨_, _, S', _, rfl, f'.trans (.of s3), c'.same s3, .refl S', e, List.getElem?_eq_getElem hm, rfl⟩
      · rintro mm σ1 H1 ⟨u3, S1, mk, rfl, f1, c1, g1, e1, em, rfl⟩
        have rM : Ref (tFld K (tVar 0) "met") [some (.ref A.a), some (.int (i : Nat)), some (.int (S.gs[i] : Nat)), u3] H1 A.T := fld_ref c1.obj cl T.f_PairClosure_met rfl rfl
        have rF : Ref (tFld K (tVar 0) "found") [some (.ref A.a), some (.int (i : Nat)), some (.int (S.gs[i] : Nat)), u3] H1 A.F := fld_ref c1.obj cl T.f_PairClosure_found rfl rfl
        have eM := evd_ixLs (K := K) (tb := tVar 1) (f := .int (mk : Nat)) (.inl (.inl c1.me)) (nats_all S1.ms) rM (evd_v 1 rfl (.int (i : Nat))) (by rw [List.getElem?_map, em]; rfl)
        refine (evb_test (evd_lt (g := fun i j => decide (i < j)) eM (evd_lenLs (.inl (.inl c1.fo)) rF))).use _ fun H2 s2 => ?_
        rw [List.length_map]
        by_cases hlt : (mk : Int) < (S1.ks.length : Int)
        · rw [if_pos (decide_eq_true hlt)]
          have lt1 : mk < S1.ks.length := by omega
          have few := c1.few
          have c2 := c1.same s2
          refine ⟨_, fun σ' H' h => h, ?_⟩
          refine evq_setD (eM.mono s2) fun v H3 s3 p3 => ?_
          cases p3
          have c3 := c2.same s3
          obtain ⟨c4, f4⟩ := c3.setMet (i := i) (m := mk + 1)
          refine evq_augL (K := K) c3.me (fun Q q => fld_at c3.obj cl T.f_PairClosure_met rfl rfl q) (at_v 1 rfl) (natsV_get em) ?_
          refine evs_meth (at_v 0 rfl) c4.obj rfl ?_
          obtain ⟨b1, X1, Y1, _, _, hI1, x1, ex1, ex1'⟩ := c1.get lt1
          have pI := mu.sq _ _ hI1
          have pJ := mu.sq _ _ (mu.sub _ _ hJ)
          have hIT := mu.times _ _ _ _ hI1 hJ
          obtain ⟨lg, elg⟩ := g1
          have eg2 : S1.ks[S.gs[i]]? = some xg := by
            rw [elg, List.getElem?_append_left (List.getElem?_eq_some_iff.mp eg).1]; exact eg
          have rF4 : Ref (tFld K (tVar 0) "found") [some (.ref A.a), some (.int (i : Nat)), some (.int (S.gs[i] : Nat)), some (.int (mk : Nat))] (upd H3 A.T (.lst ((natsV S1.ms).set i (.int ((mk + 1 : Nat) : Int))))) A.F := fld_ref c4.obj cl T.f_PairClosure_found rfl rfl
          refine (evx_callD (K := K) (d := pairD (times n X1 X') (times m Y1 Y')) ((n, m), (X1, Y1), X', Y') (eva_cons (evd_ixLs (.inl (.inl c4.fo)) (keys_all c4.keys) rF4 (evd_v 3 rfl (.int (mk : Nat))) (by rw [List.getElem?_map]; show Option.map _ S1.ks[mk]? = _; rw [ex1, ← ex1']; rfl)) (eva_cons (evd_ixLs (.inl (.inl c4.fo)) (keys_all c4.keys) rF4 (evd_v 2 rfl (.int (S.gs[i] : Nat))) (by rw [List.getElem?_map]; show Option.map _ S1.ks[S.gs[i]]? = _; rw [eg2, ← eg1]; rfl)) eva_nil)) ⟨mu.sz, pI, pJ⟩ fun r h => h).run (Same.refl _) fun v H5 s5 p5 => ?_
          obtain ⟨b5, xs5, rfl, _, _⟩ := id (show Dq K H5 v (.tuple _) from p5).tupE
          refine ⟨_, rfl, _, rfl, by rw [sizeLine_eq]; simp, fun p6 hp6 => ?_⟩
          have s6 := same_new (o := .tup [V.str "then", .int (mk : Nat), .int (S.gs[i] : Nat)]) hp6
          have c6 := (c4.same s5).same s6
          have fr6 : Fr A H (upd H5 p6 (.tup [V.str "then", .int (mk : Nat), .int (S.gs[i] : Nat)])) := (f1.trans (.of (s2.trans s3))).trans (f4.trans (.of (s5.trans s6)))
          have em' : (S1.ms.set i (mk + 1))[i]? = some (mk + 1) := List.getElem?_set_self (List.getElem?_eq_some_iff.mp em).1
          refine ⟨I, J, A, _, b5, _, _, .ref p6, rfl, c6, p5.mono s6, hIT, fun hin H7 s7 => ?_, fun hn H7 f7 c7 => ?_, qe⟩
          · exact ⟨_, by omega, _, _, _, rfl, fr6.trans (.of s7), c6.same s7, ⟨lg, elg⟩, e1, em', rfl⟩
          · exact ⟨_, by omega, _, _, _, rfl, fr6.trans f7, c7, Gro.trans (S' := ⟨S1.ks, S1.es, S1.gs, S1.ms.set i (mk + 1)⟩) ⟨lg, elg⟩ .more, e1, em', rfl⟩
        · rw [if_neg (by simpa using hlt)]
          exact ⟨_, _, _, S1, rfl, f1.trans (.of s2), c1.same s2, g'.trans g1, e1⟩
    · obtain ⟨_, _, _, S', rfl, f', c', g', e⟩ := pv
      exact q H' S' f' c' g'
end
end Kw

set_option maxRecDepth 100000
set_option maxHeartbeats 2000000
/-! The closure's __init__. -/
namespace Kw
open PySem PySem.Spec PyProof.Rows L2 KD Mx
/-- all but x stands -/
def FrX (x : Addr) (H H' : Hp) : Prop := ∀ b u, b ≠ x → H b = some u → H' b = some u
theorem FrX.trans {x : Addr} {H H1 H2 : Hp} (a : FrX x H H1) (b : FrX x H1 H2) : FrX x H H2 := fun y u n h => b y u n (a y u n h)
theorem FrX.kp {x C dx C' dx' : Addr} {fs fs' : List (Str × V)} {H H' : Hp} (f : FrX x H H') (h : H x = some (.ins C dx fs)) (h' : H' x = some (.ins C' dx' fs')) : Kp H H' := by
  have rd : ∀ a u, a ≠ x → Rd H a u → Rd H' a u := fun a u n r => by
    rcases r with r | ⟨o, r⟩
    · exact .inl (f a _ n r)
    · exact .inr ⟨o, f a _ n r⟩
  refine ⟨fun a xs r => ?_, fun a xs r => ?_⟩
  · by_cases e : a = x
    · subst e
      rcases r with r | ⟨o, r⟩ <;> (rw [h] at r; cases r)
    · exact rd a _ e r
  · by_cases e : a = x
    · subst e
      rcases r with r | ⟨o, r⟩ <;> (rw [h] at r; cases r)
    · exact ⟨xs, rd a _ e r⟩
section
variable {P : Program} {w : World} {K : PySem.W.Frag} {C x dx : Addr} {fs : List (Str × V)} {f : Str} {H : Hp} {σ : L2.St} {tv : TE} {u : TS} {D : Ends} {i : Nat} {ds : List PyData} {te : TE} {tt : TT} {t1 : TS}
theorem evq_fldV {v : V} (hv : At1 tv σ H v) (h0 : σ[i]? = some (some (.ref x))) (hx : H x = some (.ins C dx fs)) (cl : Cls K C) (na : NoAttr K C f) (hl : fs.length < 1000)
    (q : ∀ H', (putF f v fs).length ≤ fs.length + 1 → H' x = some (.ins C dx (putF f v fs)) → FrX x H H' → u D σ H') : tSeq (sFld K (tVar i) tv f) u D σ H :=
  hv _ ⟨_, h0, x, C, dx, fs, rfl, hx, cl, na, hl, q _ (length_putF f v fs) upd_same fun b o n h => by rw [upd_ne n]; exact h⟩
theorem evq_fldN {o : Addr → HO} (hv : ∀ Q : VK, (∀ p, H p = none → Q (.ref p) (upd H p (o p))) → tv σ H Q) (h0 : σ[i]? = some (some (.ref x))) (hx : H x = some (.ins C dx fs)) (cl : Cls K C) (na : NoAttr K C f) (hl : fs.length < 1000)
    (q : ∀ p H', (putF f (.ref p) fs).length ≤ fs.length + 1 → H p = none → p ≠ x → H' x = some (.ins C dx (putF f (.ref p) fs)) → H' p = some (o p) → FrX x H H' → u D σ H') : tSeq (sFld K (tVar i) tv f) u D σ H :=
  hv _ fun p hp => by
    have ne : p ≠ x := fun e => by rw [e, hx] at hp; cases hp
    refine ⟨_, h0, x, C, dx, fs, rfl, by rw [upd_ne ne.symm]; exact hx, cl, na, hl, q p _ (length_putF f _ fs) hp ne upd_same (by rw [upd_ne ne, upd_same]) fun b v n h => ?_⟩
    have n2 : b ≠ p := fun e => by rw [e, hp] at h; cases h
    rw [upd_ne n, upd_ne n2]; exact h
theorem evi_enumN (h : EvL K te σ H ds) : EvI (fun H2 H' => (∀ b u, H b = none → H2 b = some u → H' b = some u) ∧ Kp H2 H') K (iEnum K (tCons te tNil)) σ H (enumD ds) := fun H1 s R q => h H1 s _ fun p xs H2 hp s2 e2 d2 => by
  have hp0 : H p = none := s.free hp
  refine ⟨p, xs, rfl, .inl (.inl e2), q _ H2 s2 ⟨fun H' k => ?_, fun i d H' e k => ?_, fun i d x H' H'' e k y => ?_⟩⟩
  · exact ⟨xs, .inl (.inl (k.1 _ _ hp0 e2)), by rw [d2.length, enumD_length]; exact Nat.le_refl _⟩
  · have hi := (List.getElem?_eq_some_iff.mp e).1
    rw [enumD_length] at hi
    obtain ⟨v, hv, _⟩ := d2.get (List.getElem?_eq_getElem hi)
    exact ⟨xs, v, .inl (.inl (k.1 _ _ hp0 e2)), hv⟩
  · have hi := (List.getElem?_eq_some_iff.mp e).1
    rw [enumD_length] at hi
    have he := List.getElem?_eq_getElem hi
    rw [enumD_get he] at e
    cases e
    obtain ⟨v, hv, hp⟩ := d2.get he
    obtain ⟨T, x', rfl, hT, rfl, z⟩ := y
    have ex : x' = v := Option.some.inj ((z xs (.inl (.inl (k.1 _ _ hp0 e2)))).symm.trans hv)
    subst ex
    have sm := same_new (o := .tup [.int (i : Nat), x']) hT
    exact ⟨sm, .tup (.inl (.inl upd_same)) (.cons (.int _) (.one ((hp.kp k.2).mono sm)))⟩
theorem evq_ifR {b : Bool} {R : Hp → Prop} (h : EvB tt σ H b) (rest : ∀ H3, R H3 → u D σ H3) (h1 : b = true → ∀ H1, Same H H1 → (∀ H3, R H3 → u D σ H3) → t1 { D with nx := u D } σ H1) (h2 : b = false → ∀ H1, Same H H1 → R H1) : tSeq (tIfS tt t1 tNext) u D σ H :=
  evq_ifn h (fun hb H1 s => h1 hb H1 s rest) fun hb H1 s => rest H1 (h2 hb H1 s)
end
theorem mul_of {lt : List Str} {M N : Mach} {I J : Mat → Mat → Prop} (o1 : MOk lt M) (o2 : MOk lt N) (k : Clo lt.length M N I J) : Mul M.n N.n I J :=
  ⟨⟨⟨o1.ok.n1, by have := o1.n12; omega⟩, o2.ok.n1, by have := o2.n12; omega⟩, fun X Y h => ⟨(k.sq X Y h).1, (k.sq X Y h).2⟩, k.sub, k.times⟩
section
variable {P : Program} {w : World} {K : PySem.W.Frag} {mg : Str → Option Value} {base : Heap}
def spInit (P : Program) (w : World) (K : PySem.W.Frag) (C X : Addr) : Sp := fun vs H Q E => ∃ (x dx : Addr) (lt : List Str) (M N : Mach) (I J : Mat → Mat → Prop) (fv sv : V), vs = [.ref x, fv, sv, .int 500] ∧ H x = some (.ins C dx []) ∧
  Dq K H fv (machD lt M) ∧ Dq K H sv (machD lt N) ∧ MOk lt M ∧ MOk lt N ∧ Clo lt.length M N I J ∧ (∀ H' A S, A.a = x → FrX x H H' → Clos P w K C I J A S H' → Q .non H') ∧ ∀ H', E (.ref X) none H'
theorem ok_PairClosure_init (T : Txt K mg) : FnOk P w K mg base (L2.CX P w) 6 T.A_PairClosure_init.f T.A_PairClosure_init.d ["self", "first", "second", "most"] (spInit P w K T.O_PairClosure.C T.X_TooGreat.C) := by
  refine T.A_PairClosure_init.F.okX sc_PairClosure_init (fun vs H Q E h => ?_) (fun cdv A outer s H vs Q E hr h => ?_)
  · obtain ⟨_, _, _, _, _, _, _, _, _, rfl, _⟩ := h; rfl
  · obtain ⟨x, dx, lt, M, N, I, J, fv, sv, rfl, hx, h1, h2, o1, o2, k, q, qe⟩ := h
    refine ⟨_, ((pss_cons (kSFld (K := K) (pv 0) (pv 3) rfl)
  (pss_cons (kSFld (K := K) (pv 0) (pe_lst pa_nil) rfl)
  (pss_cons (kSFld (K := K) (pv 0) (pe_lst pa_nil) rfl)
  (pss_cons (kSFld (K := K) (pv 0) (kDNewH (P := P) (w := w)) rfl)
  (pss_cons (kSFld (K := K) (pv 0) (pe_lst pa_nil) rfl)
  (pss_cons (kSFld (K := K) (pv 0) (pe_lst pa_nil) rfl)
  (pss_cons (ps_expr (pe_meth (pv 0) T.O_PairClosure.cl T.A_PairClosure_add.m (ok_PairClosure_add T) (hr.mono (by decide)) T.A_PairClosure_add.b .nil (passes_call (takes_of rfl rfl rfl rfl) (fun _ _ _ _ h => h)) (pa_cons (pe_call (ok_unit_pair T) (hr.mono (by decide)) (by rfl) T.A_unit_pair.g T.A_unit_pair.F.kp T.A_unit_pair.b .nil pass0 (pa_cons (pv 1) (pa_cons (pv 2) pa_nil))) (pa_cons (pe_tup (pa_cons pe_str pa_nil)) pa_nil))))
  (pss_cons (ps_for (passes_of rfl) rfl (kiEnum (K := K) (by rfl) T.n_enumerate (pa_cons (pe_call (ok_pairs_of_letters T) (hr.mono (by decide)) (by rfl) T.A_pairs_of_letters.g T.A_pairs_of_letters.F.kp T.A_pairs_of_letters.b .nil pass0 (pa_cons (pv 1) (pa_cons (pv 2) pa_nil))) pa_nil)) (kgTup (K := K) rfl (pgs_cons (pg_name (i := 4) sc_PairClosure_init.nd rfl (.inl rfl)) (pgs_cons (pg_name (i := 5) sc_PairClosure_init.nd rfl (.inl rfl)) pgs_nil)))
    (pss_one (ps_expr (pe_meth (pv 0) T.O_PairClosure.cl T.A_PairClosure_make.m (ok_PairClosure_make T) (hr.mono (by decide)) T.A_PairClosure_make.b .nil (passes_call (takes_of rfl rfl rfl rfl) (fun _ _ _ _ h => h)) (pa_cons (pv 5) (pa_cons (pe_tup (pa_cons pe_str (pa_cons (pv 4) pa_nil))) pa_nil))))))
  (pss_cons (ps_set (i := 6) sc_PairClosure_init.nd rfl (.inl rfl) pe_int)
  (pss_one (ps_while (passes_of rfl) (pt_cmpR op_lt (pv 6) (pe_callB (kLen (K := K)) (by rfl) T.n_len (by decide +kernel) (pa_cons (kFld (K := K) (pv 0) rfl) pa_nil)) (nomark _))
    (pss_cons (ps_if (pt_val (pe_call (ok_is_own_pair T) (hr.mono (by decide)) (by rfl) T.A_is_own_pair.g T.A_is_own_pair.F.kp T.A_is_own_pair.b .nil pass0 (pa_cons (pe_ix (kIxL (K := K)) (kFld (K := K) (pv 0) rfl) (pv 6) (fun _ _ => rfl)) pa_nil))) (pss_one (ps_expr (pe_meth (pv 0) T.O_PairClosure.cl T.A_PairClosure_make.m (ok_PairClosure_make T) (hr.mono (by decide)) T.A_PairClosure_make.b .nil (passes_call (takes_of rfl rfl rfl rfl) (fun _ _ _ _ h => h)) (pa_cons (pe_call (ok_pair_pumped T) (hr.mono (by decide)) (by rfl) T.A_pair_pumped.g T.A_pair_pumped.F.kp T.A_pair_pumped.b .nil pass0 (pa_cons (pe_ix (kIxL (K := K)) (kFld (K := K) (pv 0) rfl) (pv 6) (fun _ _ => rfl)) pa_nil)) (pa_cons (pe_tup (pa_cons pe_str (pa_cons (pv 6) pa_nil))) pa_nil))))) pss_nil)
  (pss_cons (ps_aug (i := 6) sc_PairClosure_init.nd rfl (.inl rfl) pe_int ip_add)
  (pss_one (ps_expr (pe_meth0 (pv 0) T.O_PairClosure.cl T.A_PairClosure_multiply.m (ok_PairClosure_multiply T) (hr.mono (by decide)) T.A_PairClosure_multiply.b .nil (passes_call (takes_of rfl rfl rfl rfl) (fun _ _ _ _ h => h))))))))))))))))))), ?_⟩
    have cl := T.O_PairClosure.cl
    have mu := mul_of o1 o2 k
    have nl : ∀ {σ : L2.St} {H : Hp} (Q : VK), (∀ p, H p = none → Q (.ref p) (upd H p (.lst []))) → tLst tNil σ H Q := fun Q q => ⟨by simp, q⟩
    refine evq_fldV (K := K) (at_v 3 rfl) rfl hx cl T.f_PairClosure_most (by simp) fun H1 l1 x1 f1 => ?_
    refine evq_fldN (K := K) nl rfl x1 cl T.f_PairClosure_found (by simp only [List.length_nil] at l1; omega) fun aF H2 l2 n2 nx2 x2 e2 f2 => ?_
    refine evq_fldN (K := K) nl rfl x2 cl T.f_PairClosure_entries (by simp only [List.length_nil] at l1; omega) fun aE H3 l3 n3 nx3 x3 e3 f3 => ?_
    refine evq_fldN (K := K) (o := fun p => NumT P w p []) (fun Q q => q) rfl x3 cl T.f_PairClosure_numbers (by simp only [List.length_nil] at l1; omega) fun aD H4 l4 n4 nx4 x4 e4 f4 => ?_
    refine evq_fldN (K := K) nl rfl x4 cl T.f_PairClosure_makers (by simp only [List.length_nil] at l1; omega) fun aG H5 l5 n5 nx5 x5 e5 f5 => ?_
    refine evq_fldN (K := K) nl rfl x5 cl T.f_PairClosure_met (by simp only [List.length_nil] at l1; omega) fun aT H6 l6 n6 nx6 x6 e6 f6 => ?_
    have ne_of : ∀ {H : Hp} {p q : Addr} {u : HO}, H p = some u → H q = none → p ≠ q := fun h h' e => by rw [e, h'] at h; cases h
    have F3 := f3 _ _ nx2 e2
    have F4 := f4 _ _ nx2 F3
    have F5 := f5 _ _ nx2 F4
    have F6 := f6 _ _ nx2 F5
    have E4 := f4 _ _ nx3 e3
    have E5 := f5 _ _ nx3 E4
    have E6 := f6 _ _ nx3 E5
    have D6 := f6 _ _ nx4 (f5 _ _ nx4 e4)
    have G6 := f6 _ _ nx5 e5
    have c0 : Clos P w K T.O_PairClosure.C I J ⟨x, dx, aF, aE, aD, aG, aT⟩ ⟨[], [], [], []⟩ H6 := by
      refine ⟨x6, F6, E6, D6, G6, e6, ?_, fun y hy => by simp at hy, fun y hy => by simp at hy, fun y hy => by simp at hy, rfl, rfl, Nat.le_refl _, by simp⟩
      have a1 := ne_of e2 n3
      have a2 := ne_of F4 n5
      have a3 := ne_of F5 n6
      have a4 := ne_of E4 n5
      have a5 := ne_of E5 n6
      have a6 := ne_of e5 n6
      simp [a1, a2, a3, a4, a5, a6]
    have fx := ((((f1.trans f2).trans f3).trans f4).trans f5).trans f6
    have kx := fx.kp hx x6
    have d1 := h1.kp kx
    have d2 := h2.kp kx
    have fr : ∀ {H H' : Hp} {b : Addr}, FrX x H H' → b ≠ x → H' b = none → H b = none := fun {H H' b} f n h => by
      cases e : H b with
      | none => rfl
      | some u => rw [f b u n e] at h; cases h
    have fre : ∀ b ∈ [(⟨x, dx, aF, aE, aD, aG, aT⟩ : Ads).F, (⟨x, dx, aF, aE, aD, aG, aT⟩ : Ads).E, (⟨x, dx, aF, aE, aD, aG, aT⟩ : Ads).D, (⟨x, dx, aF, aE, aD, aG, aT⟩ : Ads).G, (⟨x, dx, aF, aE, aD, aG, aT⟩ : Ads).T], H b = none := fun b hb => by
      simp only [List.mem_cons, List.not_mem_nil, or_false] at hb
      rcases hb with rfl | rfl | rfl | rfl | rfl
      · exact fr f1 nx2 n2
      · exact fr (f1.trans f2) nx3 n3
      · exact fr ((f1.trans f2).trans f3) nx4 n4
      · exact fr (((f1.trans f2).trans f3).trans f4) nx5 n5
      · exact fr ((((f1.trans f2).trans f3).trans f4).trans f5) nx6 n6
    generalize hA : (⟨x, dx, aF, aE, aD, aG, aT⟩ : Ads) = A at c0 fre
    have ex : A.a = x := by rw [← hA]
    subst ex
    refine evq_meth (at_v 0 rfl) c0.obj rfl ?_
    refine (evx_callD (K := K) (d := pairD (unit M.n) (unit N.n)) (lt, M, N) (eva_cons (evd_v 1 rfl d1) (eva_cons (evd_v 2 rfl d2) eva_nil)) ⟨o1, o2⟩ fun r h => h).run (Same.refl _) fun v H7 s7 p7 => ?_
    obtain ⟨b7, xs7, rfl, _, _⟩ := id (show Dq K H7 v (.tuple _) from p7).tupE
    refine ⟨by rw [sizeLine_eq]; simp, fun p8 hp8 => ?_⟩
    have s8 := same_new (o := .tup [V.str "empty"]) hp8
    refine ⟨I, J, A, _, b7, _, _, .ref p8, rfl, (c0.same s7).same s8, p7.mono s8, k.unit, fun hin => by simp at hin, fun _ H9 f9 c9 => ?_, qe⟩
    have done : ∀ {H' : Hp}, Fr A H6 H' → FrX A.a H H' := fun f b u n h => f b u (fun hm => by rw [fre b hm] at h; cases h) (fx b u n h)
    have f69 : Fr A H6 H9 := (Fr.of (s7.trans s8)).trans f9
    have k9 := c0.kp c9 f69
    have d19 := d1.kp k9
    have d29 := d2.kp k9
    generalize hS : (Stt.more ⟨[], [], [], []⟩ (pairD (unit M.n) (unit N.n)) b7 (.ref p8)) = S1 at c9
    have hU : pairD (unit M.n) (unit N.n) ∈ S1.ks.map (·.1) := by rw [← hS]; simp [Stt.more]
    have there : ∀ b ∈ [A.F, A.E, A.D, A.G, A.T], ∃ u, H9 b = some u := fun b hb => by
      simp only [List.mem_cons, List.not_mem_nil, or_false] at hb
      rcases hb with rfl | rfl | rfl | rfl | rfl
      · exact ⟨_, c9.fo⟩
      · exact ⟨_, c9.en⟩
      · exact ⟨_, c9.nu⟩
      · exact ⟨_, c9.mkr⟩
      · exact ⟨_, c9.me⟩
    refine evq_forG (K := K) (evi_enumN (ds := letPairs lt.length M N) fun Hc sc Qc qc => ⟨_, rfl, _, rfl, _, _, lt, M, N, rfl, d19.mono sc, d29.mono sc, o1, o2, qc⟩) (fun Hb i σ' H' => ∃ t4 t5 S', σ' = [some (.ref A.a), some fv, some sv, some (.int 500), t4, t5, none] ∧ Fr A H6 H' ∧ Clos P w K T.O_PairClosure.C I J A S' H' ∧ Gro S1 S' ∧ Fr A Hb H')
      (fun Hb i σ' H' sb _ pv => ?_) (fun Hb sb => ⟨_, _, S1, rfl, f69.trans (.of sb), c9.same sb, .refl _, .refl _ _⟩) (fun Hb i d σ' H' xv H'' sb hd pv s3 dx => ?_) fun Hb σ' H' sb pv => ?_
    · obtain ⟨_, _, S', _, _, c', _, fb⟩ := pv
      exact ⟨fun b u hb hu => fb b u (fun hm => by obtain ⟨z, hz⟩ := there b hm; rw [hz] at hb; cases hb) hu, (c9.same sb).kp c' fb⟩
    · obtain ⟨t4, t5, S', rfl, f', c', g', fb⟩ := pv
      have hi : i < lt.length := by
        have := (List.getElem?_eq_some_iff.mp hd).1
        rw [enumD_length, letPairs, List.length_map, List.length_range] at this
        exact this
      rw [enumD_get (ds := letPairs lt.length M N) (i := i) (range_at hi)] at hd
      cases hd
      refine gtup2_d dx fun y z dy dz => ?_
      cases dy
      obtain ⟨bz, xz, rfl, _, _⟩ := id (show Dq K H'' z (.tuple _) from dz).tupE
      have c'' := c'.same s3
      refine evs_meth (at_v 0 rfl) c''.obj rfl ?_
      refine ⟨_, rfl, _, rfl, by rw [sizeLine_eq]; simp, fun p hp => ?_⟩
      have s4 := same_new (o := .tup [V.str "letter", .int (i : Nat)]) hp
      have hJ := k.lets i hi
      exact ⟨I, J, A, S', bz, _, _, .ref p, rfl, c''.same s4, dz.mono s4, k.sub _ _ hJ, .inl hJ, fun H5 S5 f5 c5 g5 => ⟨_, _, S5, rfl, (f'.trans (.of (s3.trans s4))).trans f5, c5, g'.trans g5, (fb.trans (.of (s3.trans s4))).trans f5⟩, qe⟩
    · obtain ⟨t4, t5, S', rfl, f', c', g', fb⟩ := pv
      refine evq_setD (K := K) evd_int fun v Ha sa pa => ?_
      cases pa
      refine ⟨fun m σ1 H1 => ∃ t4 t5 at_ S2, σ1 = [some (.ref A.a), some fv, some sv, some (.int 500), t4, t5, some (.int ((at_ : Nat) : Int))] ∧ Fr A H6 H1 ∧ Clos P w K T.O_PairClosure.C I J A S2 H1 ∧ Gro S1 S2 ∧ m = 500 - at_, ⟨_, _, _, 0, S', rfl, f'.trans (.of sa), c'.same sa, g', rfl⟩, ?_⟩
      rintro m σ1 Hd ⟨t4, t5, at_, S2, rfl, fd, cd, gd, rfl⟩
      have rF : ∀ {H' : Hp}, Same Hd H' → Ref (tFld K (tVar 0) "found") [some (.ref A.a), some fv, some sv, some (.int 500), t4, t5, some (.int ((at_ : Nat) : Int))] H' A.F := fun s => fld_ref (cd.same s).obj cl T.f_PairClosure_found rfl rfl
      refine (evb_test (evd_lt (K := K) (g := fun i j => decide (i < j)) (evd_v 6 rfl (.int (at_ : Nat))) (evd_lenLs (.inl (.inl cd.fo)) (rF (.refl _))))).use _ fun H2 s2 => ?_
      rw [List.length_map]
      by_cases hlt : (at_ : Int) < (S2.ks.length : Int)
      · rw [if_pos (decide_eq_true hlt)]
        have lt1 : at_ < S2.ks.length := by omega
        have few := cd.few
        have c2 := cd.same s2
        obtain ⟨b1, X1, Y1, _, _, hI1, x1', ex1, ex1'⟩ := cd.get lt1
        have eF : ∀ {H' : Hp}, Same Hd H' → EvD K (tOp (rIxL K) (tFld K (tVar 0) "found") (tVar 6)) [some (.ref A.a), some fv, some sv, some (.int 500), t4, t5, some (.int ((at_ : Nat) : Int))] H' (pairD X1 Y1) := fun s => evd_ixLs (.inl (.inl (cd.same s).fo)) (keys_all (cd.same s).keys) (rF s) (evd_v 6 rfl (.int (at_ : Nat))) (by rw [List.getElem?_map, ex1, ← ex1']; rfl)
        refine ⟨_, fun σ' H' h => h, ?_⟩
        refine evq_ifR (R := fun H3 => ∃ S3, Fr A H6 H3 ∧ Clos P w K T.O_PairClosure.C I J A S3 H3 ∧ Gro S1 S3) (evb_B (evx_callD (K := K) ((M.n, N.n), X1, Y1) (eva_cons (eF s2) eva_nil) ⟨mu.sz, mu.sq _ _ hI1⟩ fun r h => h)) ?_ (fun hb H3 s3 rest => ?_) fun hb H3 s3 => ⟨S2, fd.trans (.of (s2.trans s3)), c2.same s3, gd⟩
        · rintro H3 ⟨S3, f3, c3, g3⟩
          refine evq_aug (K := K) (σ := [some (.ref A.a), some fv, some sv, some (.int 500), t4, t5, some (.int ((at_ : Nat) : Int))]) (i := 6) (a := at_) (b := 1) rfl evd_int fun H4 s4 => ?_
          refine evs_meth (at_v 0 rfl) (c3.same s4).obj rfl ?_
          exact ⟨M.n, N.n, I, J, A, S3, rfl, mu, c3.same s4, fun H5 S5 f5 c5 g5 => ⟨500 - (at_ + 1), by omega, _, _, at_ + 1, S5, rfl, (f3.trans (.of s4)).trans f5, c5, g3.trans g5, rfl⟩, qe⟩
        · have s23 := s2.trans s3
          have c3 := cd.same s23
          refine evs_meth (at_v 0 rfl) c3.obj rfl ?_
          refine (evx_callD (K := K) (d := pairD (pumped M.n X1) (pumped N.n Y1)) ((M.n, N.n), X1, Y1) (eva_cons (eF s23) eva_nil) ⟨mu.sz, mu.sq _ _ hI1⟩ fun r h => h).run (Same.refl _) fun v H4 s4 p4 => ?_
          obtain ⟨b4, x4', rfl, _, _⟩ := id (show Dq K H4 v (.tuple _) from p4).tupE
          refine ⟨_, rfl, by rw [sizeLine_eq]; simp, fun p hp => ?_⟩
          have s5 := same_new (o := .tup [V.str "pump", .int (at_ : Nat)]) hp
          have hIJ : I (pumped M.n X1) (pumped N.n Y1) ∧ (J (pumped M.n X1) (pumped N.n Y1) ∨ pairD (pumped M.n X1) (pumped N.n Y1) ∈ S2.ks.map (·.1)) := by
            by_cases hu : pumped M.n X1 = unit M.n ∧ pumped N.n Y1 = unit N.n
            · rw [hu.1, hu.2]
              exact ⟨k.unit, .inr (gd.mem hU)⟩
            · have := k.pump _ _ hI1 hu
              exact ⟨k.sub _ _ this, .inl this⟩
          exact ⟨I, J, A, S2, b4, _, _, .ref p, rfl, (c3.same s4).same s5, p4.mono s5, hIJ.1, hIJ.2, fun H5 S5 f5 c5 g5 => rest H5 ⟨S5, (fd.trans (.of (s23.trans (s4.trans s5)))).trans f5, c5, gd.trans g5⟩, qe⟩
      · rw [if_neg (by simpa using hlt)]
        exact q _ A S2 rfl (done (fd.trans (.of s2))) (cd.same s2)
end
end Kw

set_option maxRecDepth 100000
set_option maxHeartbeats 2000000
/-! closure_of_two, first_against, is_below, grow_alike -/
namespace Kw
open PySem PySem.Spec PyProof.Rows L2 KD Mx
section
variable {P : Program} {w : World} {K : PySem.W.Frag} {mg : Str → Option Value} {base : Heap}
def spClosure (P : Program) (w : World) (K : PySem.W.Frag) (C X : Addr) : Sp := fun vs H Q E => ∃ (lt : List Str) (M N : Mach) (I J : Mat → Mat → Prop) (fv sv : V), vs = [fv, sv] ∧
  Dq K H fv (machD lt M) ∧ Dq K H sv (machD lt N) ∧ MOk lt M ∧ MOk lt N ∧ Clo lt.length M N I J ∧ (∀ H' A S, Same H H' → Clos P w K C I J A S H' → Q (.ref A.a) H') ∧ ∀ H', E (.ref X) none H'
theorem ok_closure_of_two (T : Txt K mg) : FnOk P w K mg base (L2.CX P w) 8 T.A_closure_of_two.f T.A_closure_of_two.d ["first", "second"] (spClosure P w K T.O_PairClosure.C T.X_TooGreat.C) := by
  refine T.A_closure_of_two.F.okX sc_closure_of_two (fun vs H Q E h => ?_) (fun cdv A outer s H vs Q E hr h => ?_)
  · obtain ⟨_, _, _, _, _, _, _, rfl, _⟩ := h; rfl
  · obtain ⟨lt, M, N, I, J, fv, sv, rfl, h1, h2, o1, o2, k, q, qe⟩ := h
    refine ⟨_, ((pss_one (ps_ret (pe_make T.mk_PairClosure (ok_PairClosure_init T) (hr.mono (by decide)) (by rfl) T.O_PairClosure.g T.A_PairClosure_init.b .nil (passes_call (takes_of rfl rfl rfl rfl) (fun _ _ _ _ h => h)) (pa_cons (pv 0) (pa_cons (pv 1) (pa_cons (pe_glob (v := .int 500) rfl T.v_MOST_PAIRS ⟨_, rfl⟩) pa_nil))))))), ?_⟩
    refine ⟨_, rfl, _, rfl, fun x dx hx hdx ne => ?_⟩
    have sm : Same H (upd (upd H dx (.own x)) x (.ins T.O_PairClosure.C dx [])) := same_mut (same_new hdx) hx
    refine ⟨x, dx, lt, M, N, I, J, fv, sv, rfl, upd_same, h1.mono sm, h2.mono sm, o1, o2, k, fun H' A S ea f c => ⟨rfl, ?_⟩, qe⟩
    subst ea
    refine q H' A S (fun b u h => f b u (fun e => ?_) (sm b u h)) c
    rw [e, hx] at h; cases h
def spFirst (P : Program) (w : World) (K : PySem.W.Frag) (C : Addr) : Sp := fun vs H Q _ => ∃ (lt : List Str) (M N : Mach) (I J : Mat → Mat → Prop) (A : Ads) (S : Stt) (fv sv : V), vs = [fv, sv, .ref A.a] ∧
  Dq K H fv (machD lt M) ∧ Dq K H sv (machD lt N) ∧ MOk lt M ∧ MOk lt N ∧ Clo lt.length M N I J ∧ Clos P w K C I J A S H ∧ (∀ X Y, I X Y → ¬ Against M N X Y) ∧ ∀ H', Same H H' → Q .non H'
open Classical in
theorem against_no {M N : Mach} {X Y : Mat} (h : ¬ Against M N X Y) : againstB M N X Y = false := by
  unfold againstB
  exact decide_eq_false h
theorem ok_first_against (T : Txt K mg) : FnOk P w K mg base CX0 2 T.A_first_against.f T.A_first_against.d ["first", "second", "closure"] (spFirst P w K T.O_PairClosure.C) := by
  refine T.A_first_against.F.ok sc_first_against (fun vs H Q E h => ?_) (fun cdv A outer s H vs Q E hr h => ?_)
  · obtain ⟨_, _, _, _, _, _, _, _, _, rfl, _⟩ := h; rfl
  · obtain ⟨lt, M, N, I, J, A, S, fv, sv, rfl, h1, h2, o1, o2, k, c, no, q⟩ := h
    refine ⟨_, ((pss_cons (ps_for PassesOwn.never rfl (kiEnum (K := K) (by rfl) T.n_enumerate (pa_cons (kFld (K := K) (pv 2) rfl) pa_nil)) (kgTup (K := K) rfl (pgs_cons (pg_name (i := 3) sc_first_against.nd rfl (.inl rfl)) (pgs_cons (pg_name (i := 4) sc_first_against.nd rfl (.inl rfl)) pgs_nil)))
    (pss_one (ps_if (pt_val (pe_call (ok_is_against T) (hr.mono (by decide)) (by rfl) T.A_is_against.g T.A_is_against.F.kp T.A_is_against.b .nil pass0 (pa_cons (pv 0) (pa_cons (pv 1) (pa_cons (pv 4) pa_nil))))) (pss_one (ps_ret (pv 3))) pss_nil)))
  (pss_one (ps_ret pe_non)))), ?_⟩
    have cl := T.O_PairClosure.cl
    refine evq_forG (K := K) (evi_enumF (.inl (.inl c.fo)) (keys_all c.keys) (fld_ref c.obj cl T.f_PairClosure_found rfl rfl)) (fun Hb i σ' H' => ∃ t3 t4, σ' = [some fv, some sv, some (.ref A.a), t3, t4] ∧ Same H H')
      (fun Hb i σ' H' sb _ pv => ?_) (fun Hb sb => ⟨_, _, rfl, sb⟩) (fun Hb i d σ' H' xv H'' sb hd pv s3 dx => ?_) fun Hb σ' H' sb pv => ?_
    · obtain ⟨_, _, _, s'⟩ := pv
      exact ⟨.inl (.inl (c.same s').fo), keys_all (c.same s').keys⟩
    · obtain ⟨t3, t4, rfl, s'⟩ := pv
      have hi : i < S.ks.length := by
        have := (List.getElem?_eq_some_iff.mp hd).1
        rw [enumD_length, List.length_map] at this
        exact this
      obtain ⟨b1, X1, Y1, _, _, hI1, x1, ex1, ex1'⟩ := c.get hi
      rw [enumD_get (ds := S.ks.map (·.1)) (i := i) (d := pairD X1 Y1) (by rw [List.getElem?_map, ex1, ← ex1']; rfl)] at hd
      cases hd
      refine gtup2_d dx fun y z dy dz => ?_
      have s'' := s'.trans s3
      refine evs_if (evb_B (evx_callD (K := K) (lt, (M, N), X1, Y1) (eva_cons (evd_v 0 rfl (h1.mono s'')) (eva_cons (evd_v 1 rfl (h2.mono s'')) (eva_cons (evd_v 4 rfl dz) eva_nil))) ⟨o1, o2, ⟨(k.sq _ _ hI1).1, (k.sq _ _ hI1).2⟩⟩ fun r h => h)) (fun hb => ?_) fun _ H4 s4 => ⟨_, _, rfl, s''.trans s4⟩
      rw [show againstB M N X1 Y1 = false from against_no (no _ _ hI1)] at hb
      cases hb
    · obtain ⟨t3, t4, rfl, s'⟩ := pv
      exact q H' s'
def spBelow (K : PySem.W.Frag) (X : Addr) : Sp := fun vs H Q E => ∃ (lt : List Str) (M N : Mach) (I J : Mat → Mat → Prop) (fv sv : V), vs = [fv, sv] ∧
  Dq K H fv (machD lt M) ∧ Dq K H sv (machD lt N) ∧ MOk lt M ∧ MOk lt N ∧ Clo lt.length M N I J ∧ (∀ X Y, I X Y → ¬ Against M N X Y) ∧ (∀ H', Same H H' → Q (.bl true) H') ∧ ∀ H', E (.ref X) none H'
theorem ok_is_below_inside (T : Txt K mg) : FnOk P w K mg base (L2.CX P w) 9 T.A_is_below_inside.f T.A_is_below_inside.d ["first", "second"] (spBelow K T.X_TooGreat.C) := by
  refine T.A_is_below_inside.F.okX sc_is_below_inside (fun vs H Q E h => ?_) (fun cdv A outer s H vs Q E hr h => ?_)
  · obtain ⟨_, _, _, _, _, _, _, rfl, _⟩ := h; rfl
  · obtain ⟨lt, M, N, I, J, fv, sv, rfl, h1, h2, o1, o2, k, no, q, qe⟩ := h
    refine ⟨_, ((pss_one (ps_ret (pe_cmpR op_isN (pe_call (ok_first_against T) (hr.mono (by decide)) (by rfl) T.A_first_against.g T.A_first_against.F.kp T.A_first_against.b .nil pass0 (pa_cons (pv 0) (pa_cons (pv 1) (pa_cons (pe_call (ok_closure_of_two T) (hr.mono (by decide)) (by rfl) T.A_closure_of_two.g T.A_closure_of_two.F.kp T.A_closure_of_two.b .nil (passes_call (takes_of rfl rfl rfl rfl) (fun _ _ _ _ h => h)) (pa_cons (pv 0) (pa_cons (pv 1) pa_nil))) pa_nil)))) pe_non (nomark _))))), ?_⟩
    exact ⟨_, rfl, _, rfl, _, rfl, _, rfl, lt, M, N, I, J, fv, sv, rfl, h1, h2, o1, o2, k, fun H1 A S s1 c1 => ⟨lt, M, N, I, J, A, S, fv, sv, rfl, h1.mono s1, h2.mono s1, o1, o2, k, c1, no, fun H2 s2 => ⟨rfl, q H2 (s1.trans s2)⟩⟩, qe⟩
theorem ok_is_below (T : Txt K mg) : FnOk P w K mg base (L2.CX P w) 10 T.A_is_below.f T.A_is_below.d ["first", "second"] (spBelow K T.X_TooGreat.C) := by
  refine T.A_is_below.F.okX sc_is_below (fun vs H Q E h => ?_) (fun cdv A outer s H vs Q E hr h => ?_)
  · obtain ⟨_, _, _, _, _, _, _, rfl, _⟩ := h; rfl
  · obtain ⟨lt, M, N, I, J, fv, sv, rfl, h1, h2, o1, o2, k, no, q, qe⟩ := h
    refine ⟨_, ((pss_cons (ps_expr (pe_call (ok_need_two_machines T) (hr.mono (by decide)) (by rfl) T.A_need_two_machines.g T.A_need_two_machines.F.kp T.A_need_two_machines.b .nil pass0 (pa_cons (pv 0) (pa_cons (pv 1) pa_nil))))
  (pss_one (ps_ret (pe_call (ok_is_below_inside T) (hr.mono (by decide)) (by rfl) T.A_is_below_inside.g T.A_is_below_inside.F.kp T.A_is_below_inside.b .nil (passes_call (takes_of rfl rfl rfl rfl) (fun _ _ _ _ h => h)) (pa_cons (pv 0) (pa_cons (pv 1) pa_nil))))))), ?_⟩
    refine evq_drop (evp_call (eva_cons (evd_v 0 rfl h1) (eva_cons (evd_v 1 rfl h2) eva_nil)) ⟨lt, M, N, rfl, o1, o2⟩) fun H1 r s1 _ => ?_
    exact ⟨_, rfl, _, rfl, lt, M, N, I, J, fv, sv, rfl, h1.mono s1, h2.mono s1, o1, o2, k, no, fun H2 s2 => q H2 (s1.trans s2), qe⟩
def spAlike (K : PySem.W.Frag) (X : Addr) : Sp := fun vs H Q E => ∃ (lt : List Str) (M N : Mach) (I J : Mat → Mat → Prop) (fv sv : V), vs = [fv, sv] ∧
  Dq K H fv (machD lt M) ∧ Dq K H sv (machD lt N) ∧ MOk lt M ∧ MOk lt N ∧ Clo lt.length M N I J ∧ (∀ X Y, I X Y → ¬ Against M N X Y ∧ ¬ Against N M Y X) ∧ (∀ H', Same H H' → Q (.bl true) H') ∧ ∀ H', E (.ref X) none H'
theorem ok_grow_alike (T : Txt K mg) : FnOk P w K mg base (L2.CX P w) 10 T.A_grow_alike.f T.A_grow_alike.d ["first", "second"] (spAlike K T.X_TooGreat.C) := by
  refine T.A_grow_alike.F.okX sc_grow_alike (fun vs H Q E h => ?_) (fun cdv A outer s H vs Q E hr h => ?_)
  · obtain ⟨_, _, _, _, _, _, _, rfl, _⟩ := h; rfl
  · obtain ⟨lt, M, N, I, J, fv, sv, rfl, h1, h2, o1, o2, k, no, q, qe⟩ := h
    refine ⟨_, ((pss_cons (ps_expr (pe_call (ok_need_two_machines T) (hr.mono (by decide)) (by rfl) T.A_need_two_machines.g T.A_need_two_machines.F.kp T.A_need_two_machines.b .nil pass0 (pa_cons (pv 0) (pa_cons (pv 1) pa_nil))))
  (pss_cons (ps_set (i := 2) sc_grow_alike.nd rfl (.inl rfl) (kFld (K := K) (pe_call (ok_closure_of_two T) (hr.mono (by decide)) (by rfl) T.A_closure_of_two.g T.A_closure_of_two.F.kp T.A_closure_of_two.b .nil (passes_call (takes_of rfl rfl rfl rfl) (fun _ _ _ _ h => h)) (pa_cons (pv 0) (pa_cons (pv 1) pa_nil))) rfl))
  (pss_one (ps_ret (pe_not (pe_callB (kAny (K := K)) (by rfl) T.n_any (by decide +kernel) (pa_cons (pe_lc (own := [("pair", 3)]) (g := gName 3) (tt := tYes) rfl sc_grow_alike.nd (kiList (K := K) (pv 2)) (blkOk_by (own := [("pair", 3)]) (N := ["first", "second", "found", "pair"]) (sc := defScope s_grow_alike) (by decide +kernel)) (fun _ _ _ _ _ => (pg_name (i := 3) sc_grow_alike.nd rfl (.inl rfl))) (fun _ _ _ _ _ => pts_nil) (fun _ _ _ _ _ => (pe_or (pe_call (ok_is_against T) (hr.mono (by decide)) (by rfl) T.A_is_against.g T.A_is_against.F.kp T.A_is_against.b .nil pass0 (pa_cons (pv 0) (pa_cons (pv 1) (pa_cons (pv 3) pa_nil)))) (pe_one (pe_call (ok_is_against T) (hr.mono (by decide)) (by rfl) T.A_is_against.g T.A_is_against.F.kp T.A_is_against.b .nil pass0 (pa_cons (pv 1) (pa_cons (pv 0) (pa_cons (pe_rev2 (K := K) (pv 3)) pa_nil)))))))) pa_nil)))))))), ?_⟩
    have cl := T.O_PairClosure.cl
    refine evq_drop (evp_call (eva_cons (evd_v 0 rfl h1) (eva_cons (evd_v 1 rfl h2) eva_nil)) ⟨lt, M, N, rfl, o1, o2⟩) fun H1 r s1 _ => ?_
    refine ⟨_, rfl, _, rfl, lt, M, N, I, J, fv, sv, rfl, h1.mono s1, h2.mono s1, o1, o2, k, fun H2 A S s2 c2 => ⟨A.a, T.O_PairClosure.C, A.dx, A.fs, .ref A.F, rfl, c2.obj, cl, T.f_PairClosure_found, rfl, ?_⟩, qe⟩
    have s12 := s1.trans s2
    have fw := c2.few
    refine evs_retD (K := K) (d := .bool true) (evd_not (a := false) (evd_is (evd_any (bs := (S.ks.map (·.1)).map fun _ => false) ((evl_map (f := fun _ => .bool false) (evi_listS (.inl (.inl c2.fo)) (keys_all c2.keys) (evr_v 2 rfl)) (by rw [List.length_map]; omega) fun d y H3 hd s3 dy => ?_).is (by simp only [List.map_map]; rfl))) (by congr 1; simp))) fun v H3 s3 p3 => by cases p3; exact q H3 (s12.trans s3)
    obtain ⟨x1, hx1, rfl⟩ := List.mem_map.mp hd
    obtain ⟨X1, Y1, e1, hI1⟩ := c2.inI x1 hx1
    rw [e1] at dy
    have s13 := s12.trans s3
    have sq := k.sq _ _ hI1
    exact evd_is (evd_or (evx_callD (K := K) (d := .bool false) (lt, (M, N), X1, Y1) (eva_cons (evd_v 0 rfl (h1.mono s13)) (eva_cons (evd_v 1 rfl (h2.mono s13)) (eva_cons (evd_v 3 rfl dy) eva_nil))) ⟨o1, o2, ⟨sq.1, sq.2⟩⟩ fun r h => h.trans (by rw [show againstB M N X1 Y1 = false from against_no (no _ _ hI1).1]))
      fun _ => evx_callD (K := K) (d := .bool false) (lt, (N, M), Y1, X1) (eva_cons (evd_v 1 rfl (h2.mono s13)) (eva_cons (evd_v 0 rfl (h1.mono s13)) (eva_cons (evd_rev2 (evd_v 3 rfl dy)) eva_nil))) ⟨o2, o1, ⟨sq.2, sq.1⟩⟩ fun r h => h.trans (by rw [show againstB N M Y1 X1 = false from against_no (no _ _ hI1).2])) rfl
end
end Kw

set_option maxRecDepth 100000
set_option maxHeartbeats 2000000
/-! Lists that stand or are new; sums of lists; sets' sources. -/
namespace KD
open PySem PySem.Spec PyProof.Rows L2
section
variable {X : Cx} {K : PySem.W.Frag} {e : Expr} {ta : TA} {p pos tpos : Pos} {elts : List Expr} {kk : Nat}
theorem kiEnumT (hg : Gl X "enumerate") (hm : X.mg "enumerate" = none) (ha : PA X [e] ta) (hK : X.K = K := by rfl) (hs : starEach [e] X.env = [(false, eval e X.env)] := by rfl) :
    PI X (.Tuple elts kk tpos) (.Call (.Name "enumerate" p) [e] [] pos) (iEnumT K ta) := by subst hK; exact pi_enumT hg hm ha hs
end
section
variable {K : PySem.W.Frag} {H : Hp} {σ : L2.St} {te ta tb : TE} {ds es : List PyData}
def EvLs (K : PySem.W.Frag) (te : TE) (σ : L2.St) (H : Hp) (ds : List PyData) : Prop :=
  ∀ H1, Same H H1 → ∀ Q : VK, (∀ p xs H2, Same H1 H2 → H2 p = some (.lst xs) → DqAll K H2 xs ds → Q (.ref p) H2) → te σ H1 Q
theorem EvL.ls (h : EvL K te σ H ds) : EvLs K te σ H ds := fun H1 s Q q => h H1 s Q fun p xs H2 _ s2 e d => q p xs H2 s2 e d
theorem evls_v {p : Addr} {xs : List V} (e : H p = some (.lst xs)) (d : DqAll K H xs ds) (h : Ref te σ H p) : EvLs K te σ H ds := fun H1 s Q q => h H1 s Q fun H2 s2 => q p xs H2 s2 ((s.trans s2) _ _ e) (d.mono (s.trans s2))
theorem evl_cat (ha : EvLs K ta σ H ds) (hb : EvLs K tb σ H es) (hl : ds.length + es.length ≤ 100000) : EvL K (tOp rCat ta tb) σ H (ds ++ es) := fun H1 s Q q =>
  ha H1 s _ fun p xs H2 s2 e2 d2 => hb H2 (s.trans s2) _ fun p' ys H3 s3 e3 d3 =>
    ⟨p, p', xs, ys, rfl, rfl, s3 _ _ e2, e3, by rw [d2.length, d3.length, sizeLine_eq]; omega, fun r hr => q r _ _ ((s2.trans s3).free hr) ((s2.trans s3).trans (same_new hr)) upd_same (((d2.mono s3).append d3).mono (same_new hr))⟩
/-- list(t) -/
theorem evl_listT (h : EvD K te σ H (.tuple ds)) : EvL K (tCB (rListOf K) (tCons te tNil)) σ H ds := fun H1 s Q q => h.run s fun v H2 s2 p2 => by
  obtain ⟨a, xs, rfl, h1, h2⟩ := p2.tupE
  exact ⟨a, xs, rfl, .inr h1, fun l hl => q l xs _ (s2.free hl) (s2.trans (same_new hl)) upd_same (h2.mono (same_new hl))⟩
theorem EvL.S {ns : List Int} (h : EvL K te σ H (ns.map .int)) : EvS K te σ H ns := fun H1 s Q q => h H1 s Q fun p xs H2 _ s2 e d => q p H2 s2 (.inl (.inl (.inl (by rw [e, d.of_ints]))))
theorem EvLs.S {ns : List Int} (h : EvLs K te σ H (ns.map .int)) : EvS K te σ H ns := fun H1 s Q q => h H1 s Q fun p xs H2 s2 e d => q p H2 s2 (.inl (.inl (.inl (by rw [e, d.of_ints]))))
theorem EvLs.M {ks : List (List Int)} (h : EvLs K te σ H (ks.map tupI)) : EvM K te σ H ks := fun H1 s Q q => h H1 s Q fun p xs H2 s2 e d => q p xs H2 s2 (.inl (.inl e)) d
theorem evd_S {ns : List Int} (h : EvD K te σ H (.tuple (ns.map .int))) : EvS K te σ H ns := fun H1 s Q q => h.run s fun v H2 s2 p2 => by
  obtain ⟨a, xs, rfl, h1, h2⟩ := p2.tupE
  rw [h2.of_ints] at h1
  exact q a H2 s2 (.inr h1)
end
end KD

set_option maxRecDepth 100000
set_option maxHeartbeats 2000000
/-! made_machine, has_reset, need_plain, moved, moved_moves -/
namespace Kw
open PySem PySem.Spec PyProof.Rows L2 KD Mx
def natD (p : Nat) : PyData := .int (p : Nat)
def mvD (m : Mx.Move) : PyData := tupI (moveL m)
theorem zs_map (l : List Nat) : (zs l).map PyData.int = l.map natD := by unfold zs; rw [List.map_map]; rfl
theorem mv_map (l : List Mx.Move) : (l.map moveL).map tupI = l.map mvD := by rw [List.map_map]; rfl
theorem machD_eq (lt : List Str) (M : Mach) : machD lt M = .tuple [letD lt, .int (M.n : Nat), .tuple (M.st.map natD), .tuple (M.en.map natD), .tuple (M.mv.map mvD)] := by
  unfold machD intsD rowsT
  rw [zs_map, zs_map, mv_map]
theorem natD_inj {a b : Nat} (h : natD a = natD b) : a = b := by unfold natD at h; injection h with h; exact Int.ofNat.inj h
theorem mvD_inj {a b : Mx.Move} (h : mvD a = mvD b) : a = b := moveL_inj (tupI_inj h)
def unMv : List Int → Mx.Move
  | [p, a, c, q] => (p.toNat, a.toNat, c, q.toNat)
  | _ => (0, 0, 0, 0)
theorem unMv_mv (m : Mx.Move) : unMv (moveL m) = m := by
  obtain ⟨p, a, c, q⟩ := m
  simp [moveL, unMv]
theorem nodup_len {α : Type} [DecidableEq α] : ∀ {l m : List α}, l.Nodup → (∀ x ∈ l, x ∈ m) → l.length ≤ m.length
  | [], _, _, _ => Nat.zero_le _
  | a :: l, m, nd, h => by
    rw [List.nodup_cons] at nd
    have ha := h a List.mem_cons_self
    have := nodup_len (l := l) (m := m.erase a) nd.2 fun x hx => (List.mem_erase_of_ne (fun e : x = a => nd.1 (by rw [← e]; exact hx))).mpr (h x (List.mem_cons_of_mem _ hx))
    rw [List.length_erase_of_mem ha] at this
    have : 0 < m.length := List.length_pos_of_mem ha
    rw [List.length_cons]
    omega
/-- a machine out of lists -/
structure Made (n : Nat) (l1 l2 : List Nat) (mv : List Mx.Move) (R : Mach) : Prop where
  n : R.n = n
  st : ∀ p, p ∈ R.st ↔ p ∈ l1
  en : ∀ p, p ∈ R.en ↔ p ∈ l2
  mv : ∀ m, m ∈ R.mv ↔ m ∈ mv
  st' : (zs R.st).Pairwise (· < ·)
  en' : (zs R.en).Pairwise (· < ·)
  mv' : (R.mv.map moveL).Pairwise (· < ·)
theorem zs_nodup {l : List Nat} (h : (zs l).Pairwise (· < ·)) : l.Nodup := by
  unfold zs at h
  rw [List.pairwise_map] at h
  exact h.imp fun h e => by subst e; omega
theorem mv_nodup {l : List Mx.Move} (h : (l.map moveL).Pairwise (· < ·)) : l.Nodup := by
  rw [List.pairwise_map] at h
  exact h.imp fun h e => by subst e; exact List.lt_irrefl _ h
theorem Made.ok {n : Nat} {l1 l2 : List Nat} {mv : List Mx.Move} {R : Mach} {lt : List Str} (m : Made n l1 l2 mv R) (L : LetOk lt) (n1 : 1 ≤ n) (n12 : n ≤ 12) (h1 : ∀ p ∈ l1, p < n) (h2 : ∀ p ∈ l2, p < n) (h3 : ∀ x ∈ mv, MvOk lt.length n x)
    (b1 : l1.length < 64) (b2 : l2.length < 64) (b3 : mv.length < 64) : MOk lt R where
  lets := L
  ok := ⟨by rw [m.n]; exact n1, fun p hp => by rw [m.n]; exact h1 p ((m.st p).mp hp), fun p hp => by rw [m.n]; exact h2 p ((m.en p).mp hp), fun p a c q hm => by rw [m.n]; exact h3 _ ((m.mv _).mp hm)⟩
  n12 := by rw [m.n]; exact n12
  st := m.st'
  en := m.en'
  mv := m.mv'
  sfew := by have := nodup_len (zs_nodup m.st') fun p hp => (m.st p).mp hp; omega
  efew := by have := nodup_len (zs_nodup m.en') fun p hp => (m.en p).mp hp; omega
  few := by have := nodup_len (mv_nodup m.mv') fun p hp => (m.mv p).mp hp; omega
theorem to_nats {ys : List Int} {l : List Nat} (h : sortedSet (zs l) ys) : ∃ r : List Nat, ys = zs r ∧ (zs r).Pairwise (· < ·) ∧ ∀ p, p ∈ r ↔ p ∈ l := by
  have e : ys = zs (ys.map Int.toNat) := by
    unfold zs
    rw [List.map_map]
    have : ys.map ((fun n : Nat => (n : Int)) ∘ Int.toNat) = ys.map id := List.map_congr_left fun y hy => by
      obtain ⟨p, _, rfl⟩ := List.mem_map.mp ((h.2 y).mp hy)
      simp
    rw [this, List.map_id]
  refine ⟨ys.map Int.toNat, e, e ▸ h.1, fun p => ?_⟩
  constructor
  · intro hp
    obtain ⟨y, hy, rfl⟩ := List.mem_map.mp hp
    obtain ⟨q, hq, rfl⟩ := List.mem_map.mp ((h.2 y).mp hy)
    simpa using hq
  · intro hp
    exact List.mem_map.mpr ⟨(p : Int), (h.2 _).mpr (List.mem_map.mpr ⟨p, hp, rfl⟩), by simp⟩
theorem to_moves {ys : List (List Int)} {l : List Mx.Move} (h : sortedSetT (l.map moveL) ys) : ∃ r : List Mx.Move, ys = r.map moveL ∧ (r.map moveL).Pairwise (· < ·) ∧ ∀ m, m ∈ r ↔ m ∈ l := by
  have e : ys = (ys.map unMv).map moveL := by
    rw [List.map_map]
    have : ys.map (moveL ∘ unMv) = ys.map id := List.map_congr_left fun y hy => by
      obtain ⟨m, _, rfl⟩ := List.mem_map.mp ((h.2 y).mp hy)
      show moveL (unMv (moveL m)) = moveL m
      rw [unMv_mv]
    rw [this, List.map_id]
  refine ⟨ys.map unMv, e, e ▸ h.1, fun m => ?_⟩
  constructor
  · intro hm
    obtain ⟨y, hy, rfl⟩ := List.mem_map.mp hm
    obtain ⟨m', hm', rfl⟩ := List.mem_map.mp ((h.2 y).mp hy)
    rw [unMv_mv]; exact hm'
  · intro hm
    exact List.mem_map.mpr ⟨moveL m, (h.2 _).mpr (List.mem_map.mpr ⟨m, hm, rfl⟩), unMv_mv m⟩
/-- a promise of a new list -/
def spNew (K : PySem.W.Frag) {α : Type} (args : α → List PyData) (pre : α → Prop) (out : α → List PyData) : Sp := fun vs H Q _ => ∃ a, DqAll K H vs (args a) ∧ pre a ∧ ∀ p xs H', H p = none → Same H H' → H' p = some (.lst xs) → DqAll K H' xs (out a) → Q (.ref p) H'
section
variable {K : PySem.W.Frag} {H : Hp} {σ : L2.St} {te ta t0 t1 t2 t3 t4 : TE} {tt : TT} {wi : TI} {α : Type} {E : XK}
theorem evl_call {tr : TA} {args : α → List PyData} {pre : α → Prop} {out : α → List PyData} (a : α) (h : EvA K tr σ H (args a)) (hp : pre a) : EvL K (tCall (spNew K args pre out) [] E tr) σ H (out a) := fun H1 s Q q =>
  h H1 s _ fun vs H2 s2 p2 => ⟨a, by rw [List.append_nil]; exact p2, hp, fun p xs H3 hp3 s3 e3 d3 => q p xs H3 (s2.free hp3) (s2.trans s3) e3 d3⟩
theorem mvD_eq (m : Mx.Move) : mvD m = .tuple [.int (m.1 : Nat), .int (m.2.1 : Nat), .int m.2.2.1, .int (m.2.2.2 : Nat)] := rfl
theorem gtup4_m {v : V} {i j k l : Nat} {m : Mx.Move} {Q : L2.St → Hp → Prop} (h : Dq K H v (mvD m)) (q : Q ((((σ.set i (some (.int (m.1 : Nat)))).set j (some (.int (m.2.1 : Nat)))).set k (some (.int m.2.2.1))).set l (some (.int (m.2.2.2 : Nat)))) H) :
    gTup K 4 (gCons (gName i) (gCons (gName j) (gCons (gName k) (gCons (gName l) gNil)))) v σ H Q := gtup4_d (show Dq K H v (.tuple [_, _, _, _]) from h) fun x y z u e1 e2 e3 e4 => by
  cases e1; cases e2; cases e3; cases e4
  exact q
theorem wipe_nil (σ : L2.St) : wipe σ [] = σ := rfl
theorem wipe_get (vs : List Nat) : ∀ (σ : L2.St) (n : Nat), (wipe σ vs)[n]? = if n ∈ vs then (σ[n]?).map (fun _ => none) else σ[n]? := by
  induction vs with
  | nil => intro σ n; simp [wipe_nil]
  | cons i vs ih =>
    intro σ n
    have e : wipe σ (i :: vs) = (wipe σ vs).set i none := rfl
    rw [e]
    by_cases c : n = i
    · subst c
      rw [if_pos List.mem_cons_self, List.getElem?_set_self', ih]
      by_cases h : n ∈ vs
      · rw [if_pos h]; cases σ[n]? <;> rfl
      · rw [if_neg h]
        cases σ[n]? <;> rfl
    · rw [List.getElem?_set_ne (Ne.symm c), ih]
      by_cases h : n ∈ vs
      · rw [if_pos h, if_pos (List.mem_cons_of_mem _ h)]
      · rw [if_neg h, if_neg (by simp [c, h])]
theorem wipe4 {σ : L2.St} {i j k l : Nat} {x y z u : Option V} : wipe (((((wipe σ [i, j, k, l]).set i x).set j y).set k z).set l u) [i, j, k, l] = wipe σ [i, j, k, l] := by
  refine List.ext_getElem? fun n => ?_
  rw [wipe_get, wipe_get]
  by_cases h : n ∈ [i, j, k, l]
  · rw [if_pos h, if_pos h]
    simp only [List.getElem?_set, List.length_set]
    simp only [wipe_length, wipe_get, if_pos h]
    repeat' split
    all_goals first
      | rfl
      | (cases σ[n]? <;> rfl)
      | (rename_i hn; subst_vars; rw [List.getElem?_eq_getElem (by assumption)]; rfl)
      | (subst_vars; rw [List.getElem?_eq_none (by omega)]; rfl)
      | (subst_vars; simp_all)
  · rw [if_neg h, if_neg h]
    simp only [List.mem_cons, List.not_mem_nil, or_false, not_or] at h
    rw [List.getElem?_set_ne (Ne.symm h.2.2.2), List.getElem?_set_ne (Ne.symm h.2.2.1), List.getElem?_set_ne (Ne.symm h.2.1), List.getElem?_set_ne (Ne.symm h.1), wipe_get, if_neg (by simp [h])]
/-- a comprehension over moves -/
theorem evl_moves {i j k l : Nat} {L : List Mx.Move} {f : Mx.Move → Option PyData} (hs : EvI Same K wi σ H (L.map mvD)) (hl : L.length ≤ 100000)
    (h : ∀ m H1, m ∈ L → Same H H1 → match f m with
      | none => EvB tt (((((wipe σ [i, j, k, l]).set i (some (.int (m.1 : Nat)))).set j (some (.int (m.2.1 : Nat)))).set k (some (.int m.2.2.1))).set l (some (.int (m.2.2.2 : Nat)))) H1 false
      | some e => EvB tt (((((wipe σ [i, j, k, l]).set i (some (.int (m.1 : Nat)))).set j (some (.int (m.2.1 : Nat)))).set k (some (.int m.2.2.1))).set l (some (.int (m.2.2.2 : Nat)))) H1 true ∧ EvD K te (((((wipe σ [i, j, k, l]).set i (some (.int (m.1 : Nat)))).set j (some (.int (m.2.1 : Nat)))).set k (some (.int m.2.2.1))).set l (some (.int (m.2.2.2 : Nat)))) H1 e) :
    EvL K (tLc wi (gTup K 4 (gCons (gName i) (gCons (gName j) (gCons (gName k) (gCons (gName l) gNil))))) tt te [i, j, k, l]) σ H (L.filterMap f) := by
  classical
  let F : PyData → Option PyData := fun d => if z : ∃ a ∈ L, mvD a = d then f z.choose else none
  have hF : ∀ a ∈ L, F (mvD a) = f a := fun a ha => by
    have z : ∃ b ∈ L, mvD b = mvD a := ⟨a, ha, rfl⟩
    show (if z : ∃ b ∈ L, mvD b = mvD a then f z.choose else none) = f a
    rw [dif_pos z, mvD_inj z.choose_spec.2]
  refine (evl_lcG hs (by simpa using hl) F (fun d σ2 _ => ∃ m ∈ L, d = mvD m ∧ σ2 = ((((wipe σ [i, j, k, l]).set i (some (.int (m.1 : Nat)))).set j (some (.int (m.2.1 : Nat)))).set k (some (.int m.2.2.1))).set l (some (.int (m.2.2.2 : Nat)))) (fun d x H1 hd _ dx Q q => ?_) fun d σ2 H1 hd s ⟨m, hm, e1, e2⟩ => ?_).is ?_
  · obtain ⟨m, hm, rfl⟩ := List.mem_map.mp hd
    exact gtup4_m dx (q _ ⟨m, hm, rfl, rfl⟩ wipe4)
  · subst e1 e2
    rw [hF m hm]
    exact h m H1 hm s
  · rw [List.filterMap_map]
    exact fm_congr fun a ha => hF a ha
end
section
variable {P : Program} {w : World} {K : PySem.W.Frag} {mg : Str → Option Value} {base : Heap}
def spMade (K : PySem.W.Frag) : Sp := fun vs H Q _ => ∃ (x : V) (a b c : Addr) (xs : List V) (lt : List Str) (n : Nat) (l1 l2 : List Nat) (mv : List Mx.Move), vs = [x, .int (n : Nat), .ref a, .ref b, .ref c] ∧ Dq K H x (letD lt) ∧
  (SqL K H a ((zs l1).map V.int) ∨ SqT K H a ((zs l1).map V.int)) ∧ (SqL K H b ((zs l2).map V.int) ∨ SqT K H b ((zs l2).map V.int)) ∧ SqL K H c xs ∧ DqAll K H xs ((mv.map moveL).map tupI) ∧ l1.length < 64 ∧ l2.length < 64 ∧ mv.length < 64 ∧
  ∀ R v H', Same H H' → Dq K H' v (machD lt R) → Made n l1 l2 mv R → Q v H'
theorem evp_made {H : Hp} {σ : L2.St} {t0 t1 t2 t3 t4 : TE} {E : XK} {lt : List Str} {n : Nat} {l1 l2 : List Nat} {mv : List Mx.Move} (h0 : EvD K t0 σ H (letD lt)) (h1 : EvD K t1 σ H (.int (n : Nat))) (h2 : EvS K t2 σ H (zs l1)) (h3 : EvS K t3 σ H (zs l2)) (h4 : EvM K t4 σ H (mv.map moveL))
    (b1 : l1.length < 64) (b2 : l2.length < 64) (b3 : mv.length < 64) : EvP K (tCall (spMade K) [] E (tCons t0 (tCons t1 (tCons t2 (tCons t3 (tCons t4 tNil)))))) σ H (fun r => ∃ R, r = machD lt R ∧ Made n l1 l2 mv R) := fun H1 s Q q =>
  h0.run s fun x H2 s2 d2 => h1.run (s.trans s2) fun y H3 s3 d3 => by
    cases d3
    have s03 := (s.trans s2).trans s3
    refine h2 H3 s03 _ fun a H4 s4 e4 => h3 H4 (s03.trans s4) _ fun b H5 s5 e5 => h4 H5 ((s03.trans s4).trans s5) _ fun c xs H6 s6 e6 d6 => ?_
    exact ⟨x, a, b, c, xs, lt, n, l1, l2, mv, rfl, d2.mono (((s3.trans s4).trans s5).trans s6), e4.elim (fun z => .inl (sqL_same (s5.trans s6) z)) (fun z => .inr (sqT_kp (.of (s5.trans s6)) z)), e5.elim (fun z => .inl (sqL_same s6 z)) (fun z => .inr (sqT_kp (.of s6) z)), e6, d6, b1, b2, b3,
      fun R v H7 s7 d7 m => q v H7 _ (((((s2.trans s3).trans s4).trans s5).trans s6).trans s7) d7 ⟨R, rfl, m⟩⟩
theorem ok_made_machine (T : Txt K mg) : FnOk P w K mg base CX0 1 T.A_made_machine.f T.A_made_machine.d ["letters", "states", "starts", "ends", "moves"] (spMade K) := by
  refine T.A_made_machine.F.ok sc_made_machine (fun vs H Q E h => ?_) (fun cdv A outer s H vs Q E hr h => ?_)
  · obtain ⟨_, _, _, _, _, _, _, _, _, _, rfl, _⟩ := h; rfl
  · obtain ⟨x, a, b, c, xs, lt, n, l1, l2, mv, rfl, hx, ha, hb, hc, hd, b1, b2, b3, q⟩ := h
    refine ⟨_, ((pss_one (ps_ret (pe_tup (pa_cons (pv 0) (pa_cons (pv 1) (pa_cons (pe_callTy (kTup (K := K)) (by rfl) T.n_tuple (by decide +kernel) (pa_cons (pe_callB (kSortedSetI (by rfl) (hu64 hr)) (by rfl) T.n_sorted (by decide +kernel) (pa_cons (pe_callTy (kSetI (K := K) (by rfl) (hu64 hr)) (by rfl) T.n_set (by decide +kernel) (pa_cons (pv 2) pa_nil)) pa_nil)) pa_nil)) (pa_cons (pe_callTy (kTup (K := K)) (by rfl) T.n_tuple (by decide +kernel) (pa_cons (pe_callB (kSortedSetI (by rfl) (hu64 hr)) (by rfl) T.n_sorted (by decide +kernel) (pa_cons (pe_callTy (kSetI (K := K) (by rfl) (hu64 hr)) (by rfl) T.n_set (by decide +kernel) (pa_cons (pv 3) pa_nil)) pa_nil)) pa_nil)) (pa_cons (pe_callTy (kTup (K := K)) (by rfl) T.n_tuple (by decide +kernel) (pa_cons (pe_callB (kSortedSetT (K := K) (by rfl) (hu64 hr)) (by rfl) T.n_sorted (by decide +kernel) (pa_cons (pe_callTy (kSetT (K := K) (by rfl) (hu64 hr)) (by rfl) T.n_set (by decide +kernel) (pa_cons (pv 4) pa_nil)) pa_nil)) pa_nil)) pa_nil))))))))), ?_⟩
    have nl : ∀ l : List Nat, (zs l).length = l.length := zs_len
    refine hx |> fun hx => ⟨_, rfl, _, rfl, ?_⟩
    refine (evp_tss (K := K) (evS_v rfl ha) (by rw [nl]; exact b1)).use _ fun v1 H1 r1 s1 p1 e1 => ?_
    obtain ⟨y1, rfl, z1⟩ := e1
    refine (evp_tss (K := K) (evS_v rfl (hb.elim (fun z => .inl (sqL_same s1 z)) fun z => .inr (sqT_kp (.of s1) z))) (by rw [nl]; exact b2)).use _ fun v2 H2 r2 s2 p2 e2 => ?_
    obtain ⟨y2, rfl, z2⟩ := e2
    refine (evp_tssT (K := K) (ks := mv.map moveL) (evM_v rfl (sqL_same (s1.trans s2) hc) (hd.mono (s1.trans s2))) (by rw [List.length_map]; exact b3) fun k hk => ?_).use _ fun v3 H3 r3 s3 p3 e3 => ?_
    · obtain ⟨m, _, rfl⟩ := List.mem_map.mp hk
      exact fun z => nomatch z
    obtain ⟨y3, rfl, z3⟩ := e3
    obtain ⟨l1', rfl, w1, m1⟩ := to_nats z1
    obtain ⟨l2', rfl, w2, m2⟩ := to_nats z2
    obtain ⟨mv', rfl, w3, m3⟩ := to_moves z3
    refine ⟨by rw [sizeLine_eq]; simp, fun p hp => ?_⟩
    have s4 := same_new (o := .tup [x, .int (n : Nat), v1, v2, v3]) hp
    refine q ⟨n, l1', l2', mv'⟩ _ _ (((s1.trans s2).trans s3).trans s4) (.tup (.inl (.inl upd_same)) (.cons (hx.mono (((s1.trans s2).trans s3).trans s4)) (.cons (.int _) (.cons (p1.mono ((s2.trans s3).trans s4)) (.cons (p2.mono (s3.trans s4)) (.one (p3.mono s4))))))) ⟨rfl, m1, m2, m3, w1, w2, w3⟩
def spHasReset (K : PySem.W.Frag) : Sp := spX K (α := List Str × Mach) (fun a => [machD a.1 a.2]) (fun a => a.2.mv.length ≤ 5000) (fun a r => r = .bool (a.2.mv.any fun m => decide (m.2.2.1 = -1)))
theorem ok_has_reset (T : Txt K mg) : FnOk P w K mg base CX0 1 T.A_has_reset.f T.A_has_reset.d ["machine"] (spHasReset K) := by
  refine T.A_has_reset.F.ok sc_has_reset (fun vs H Q E h => ?_) (fun cdv A outer s H vs Q E hr h => ?_)
  · obtain ⟨a, hd, _⟩ := h; exact hd.length
  · obtain ⟨⟨lt, M⟩, hd, few, q⟩ := h
    refine ⟨_, ((pss_one (ps_ret (pe_callB (kAny (K := K)) (by rfl) T.n_any (by decide +kernel) (pa_cons (pe_lc (own := [("move", 1)]) (g := gName 1) (tt := tYes) rfl sc_has_reset.nd (kiTup (K := K) (pe_ix (kIxT (K := K)) (pv 0) pe_int (fun _ _ => rfl))) (blkOk_by (own := [("move", 1)]) (N := ["machine", "move"]) (sc := defScope s_has_reset) (by decide +kernel)) (fun _ _ _ _ _ => (pg_name (i := 1) sc_has_reset.nd rfl (.inl rfl))) (fun _ _ _ _ _ => pts_nil) (fun _ _ _ _ _ => (pe_cmpR op_eq (pe_ix (kIxT (K := K)) (pv 1) pe_int (fun _ _ => rfl)) (pe_glob (v := .int (-1)) rfl T.v_RESET_COST ⟨_, rfl⟩) (nomark _)))) pa_nil))))), ?_⟩
    obtain ⟨x0, rfl, h0⟩ := hd.single
    have few' : M.mv.length ≤ 5000 := few
    have v4 : EvD K (tOp (rIxT K) (tVar 0) (tC (.int 4))) (L2.start ["machine", "move"] [x0]) H (.tuple (M.mv.map mvD)) := evd_is (evd_ixT (i := 4) (f := rowsT (M.mv.map moveL)) (evd_v 0 rfl h0) evd_int rfl) (by unfold rowsT; rw [mv_map])
    refine evs_retD (K := K) (d := .bool (M.mv.any fun m => decide (m.2.2.1 = -1))) (evd_is (evd_any (bs := M.mv.map fun m => decide (m.2.2.1 = -1)) ((evl_mapG (K := K) (l := M.mv) (g := mvD) (f := fun m => .bool (decide (m.2.2.1 = -1))) (evi_tup v4).same (by omega) (fun a _ b _ e => by rw [mvD_inj e]) fun m x H1 hm s dx => ?_).is (by rw [List.map_map]; rfl))) (by rw [List.any_map]; rfl)) fun v H1 s p => q v H1 _ s p rfl
    exact evd_eq (evd_ixT (i := 2) (ds := [.int (m.1 : Nat), .int (m.2.1 : Nat), .int m.2.2.1, .int (m.2.2.2 : Nat)]) (evd_v 1 rfl dx) evd_int rfl) (evd_int (K := K)) rfl
def PlainM (M : Mach) : Prop := ∀ m ∈ M.mv, 0 ≤ m.2.2.1
theorem plain_any {M : Mach} (h : PlainM M) : (M.mv.any fun m => decide (m.2.2.1 = -1)) = false := by
  rw [List.any_eq_false]
  intro m hm
  have := h m hm
  simp
  omega
def spNeedPlain (K : PySem.W.Frag) : Sp := spX K (α := List Str × Mach) (fun a => [machD a.1 a.2]) (fun a => a.2.mv.length ≤ 5000 ∧ PlainM a.2) (fun a r => r = .none)
theorem ok_need_plain (T : Txt K mg) : FnOk P w K mg base CX0 2 T.A_need_plain.f T.A_need_plain.d ["machine"] (spNeedPlain K) := by
  refine T.A_need_plain.F.ok sc_need_plain (fun vs H Q E h => ?_) (fun cdv A outer s H vs Q E hr h => ?_)
  · obtain ⟨a, hd, _⟩ := h; exact hd.length
  · obtain ⟨⟨lt, M⟩, hd, ⟨few, pl⟩, q⟩ := h
    refine ⟨_, ((pss_one (ps_if (pt_val (pe_call (ok_has_reset T) (hr.mono (by decide)) (by rfl) T.A_has_reset.g T.A_has_reset.F.kp T.A_has_reset.b .nil pass0 (pa_cons (pv 0) pa_nil))) (pss_one ps_never) pss_nil))), ?_⟩
    obtain ⟨x0, rfl, h0⟩ := hd.single
    exact evs_if (b := false) (evb_B (evx_callD (K := K) (d := .bool false) (lt, M) (eva_cons (evd_v 0 rfl h0) eva_nil) few fun r h => h.trans (by rw [show (M.mv.any fun m => decide (m.2.2.1 = -1)) = false from plain_any pl]))) (fun z => nomatch z) fun _ H1 s1 => q _ H1 _ s1 .non rfl
def shift (k : Nat) (m : Mx.Move) : Mx.Move := (m.1 + k, m.2.1, m.2.2.1, m.2.2.2 + k)
def spMoved (K : PySem.W.Frag) : Sp := spNew K (α := List Nat × Nat) (fun a => [.tuple (a.1.map natD), .int (a.2 : Nat)]) (fun a => a.1.length ≤ 5000) (fun a => (a.1.map (· + a.2)).map natD)
theorem ok_moved (T : Txt K mg) : FnOk P w K mg base CX0 1 T.A_moved.f T.A_moved.d ["states", "more"] (spMoved K) := by
  refine T.A_moved.F.ok sc_moved (fun vs H Q E h => ?_) (fun cdv A outer s H vs Q E hr h => ?_)
  · obtain ⟨a, hd, _⟩ := h; exact hd.length
  · obtain ⟨⟨l, k⟩, hd, few, q⟩ := h
    refine ⟨_, ((pss_one (ps_ret (pe_lc (own := [("state", 2)]) (g := gName 2) (tt := tYes) rfl sc_moved.nd (kiTup (K := K) (pv 0)) (blkOk_by (own := [("state", 2)]) (N := ["states", "more", "state"]) (sc := defScope s_moved) (by decide +kernel)) (fun _ _ _ _ _ => (pg_name (i := 2) sc_moved.nd rfl (.inl rfl))) (fun _ _ _ _ _ => pts_nil) (fun _ _ _ _ _ => (pe_op op_add (pv 2) (pv 1))))))), ?_⟩
    obtain ⟨x0, x1, rfl, h0, h1⟩ := hd.two
    have few' : l.length ≤ 5000 := few
    exact (EvL.is (evl_mapG (K := K) (l := l) (g := natD) (f := fun p => natD (p + k)) (evi_tup (evd_v 0 rfl h0)).same (by omega) (fun a _ b _ e => by rw [natD_inj e]) fun p x H1 hp s dx => evd_ar (g := fun i j => i + j) (i := (p : Nat)) (j := (k : Nat)) (evd_v 2 rfl dx) (evd_v 1 rfl (h1.mono s))) (by show _ = List.map natD (List.map (fun x => x + k) l); rw [List.map_map]; rfl)).use _ fun p xs H1 hp s e d => q p xs H1 hp s e d
def spMovedM (K : PySem.W.Frag) : Sp := spNew K (α := List Mx.Move × Nat) (fun a => [.tuple (a.1.map mvD), .int (a.2 : Nat)]) (fun a => a.1.length ≤ 5000) (fun a => (a.1.map (shift a.2)).map mvD)
theorem ok_moved_moves (T : Txt K mg) : FnOk P w K mg base CX0 1 T.A_moved_moves.f T.A_moved_moves.d ["moves", "more"] (spMovedM K) := by
  refine T.A_moved_moves.F.ok sc_moved_moves (fun vs H Q E h => ?_) (fun cdv A outer s H vs Q E hr h => ?_)
  · obtain ⟨a, hd, _⟩ := h; exact hd.length
  · obtain ⟨⟨l, k⟩, hd, few, q⟩ := h
    refine ⟨_, ((pss_one (ps_ret (pe_lc (own := [("p", 2), ("letter", 3), ("cost", 4), ("q", 5)]) (g := gTup K 4 (gCons (gName 2) (gCons (gName 3) (gCons (gName 4) (gCons (gName 5) (gNil)))))) (tt := tYes) rfl sc_moved_moves.nd (kiTup (K := K) (pv 0)) (blkOk_by (own := [("p", 2), ("letter", 3), ("cost", 4), ("q", 5)]) (N := ["moves", "more", "p", "letter", "cost", "q"]) (sc := defScope s_moved_moves) (by decide +kernel)) (fun _ _ _ _ _ => (kgTup (K := K) rfl (pgs_cons (pg_name (i := 2) sc_moved_moves.nd rfl (.inl rfl)) (pgs_cons (pg_name (i := 3) sc_moved_moves.nd rfl (.inl rfl)) (pgs_cons (pg_name (i := 4) sc_moved_moves.nd rfl (.inl rfl)) (pgs_cons (pg_name (i := 5) sc_moved_moves.nd rfl (.inl rfl)) pgs_nil)))))) (fun _ _ _ _ _ => pts_nil) (fun _ _ _ _ _ => (pe_tup (pa_cons (pe_op op_add (pv 2) (pv 1)) (pa_cons (pv 3) (pa_cons (pv 4) (pa_cons (pe_op op_add (pv 5) (pv 1)) pa_nil)))))))))), ?_⟩
    obtain ⟨x0, x1, rfl, h0, h1⟩ := hd.two
    have few' : l.length ≤ 5000 := few
    refine (EvL.is (evl_moves (K := K) (L := l) (f := fun m => some (mvD (shift k m))) (evi_tup (evd_v 0 rfl h0)).same (by omega) fun m H1 hm s => ⟨evb_yes, ?_⟩) (by show _ = List.map mvD (List.map (shift k) l); rw [List.filterMap_eq_map', List.map_map]; rfl)).use _ fun p xs H1 hp s e d => q p xs H1 hp s e d
    exact evd_tup (eva_cons (evd_ar (g := fun i j => i + j) (i := (m.1 : Nat)) (j := (k : Nat)) (evd_v 2 rfl (.int _)) (evd_v 1 rfl (h1.mono s))) (eva_cons (evd_v 3 rfl (.int _)) (eva_cons (evd_v 4 rfl (.int _)) (eva_cons (evd_ar (g := fun i j => i + j) (i := (m.2.2.2 : Nat)) (j := (k : Nat)) (evd_v 5 rfl (.int _)) (evd_v 1 rfl (h1.mono s))) eva_nil)))) (by simp [moveL])
end
end Kw

set_option maxRecDepth 100000
set_option maxHeartbeats 2000000
/-! cheaper, mirrored_machine, scaled -/
namespace Kw
open PySem PySem.Spec PyProof.Rows L2 KD Mx
/-- few enough to be told by small sets -/
structure Lite (M : Mach) : Prop where
  st : M.st.length ≤ 4
  en : M.en.length ≤ 4
  mv : M.mv.length ≤ 8
section
variable {K : PySem.W.Frag} {H : Hp} {σ : L2.St} {ta tb : TE} {ds es : List PyData} {u : TS} {D : Ends}
theorem evq_parL {i j : Nat} (ha : EvL K ta σ H ds) (hb : EvL K tb σ H es) (q : ∀ p xs p' ys H1, Same H H1 → H1 p = some (.lst xs) → DqAll K H1 xs ds → H1 p' = some (.lst ys) → DqAll K H1 ys es → u D ((σ.set i (some (.ref p))).set j (some (.ref p'))) H1) :
    tSeq (tPar i j (tCons ta (tCons tb tNil))) u D σ H := ha H (Same.refl _) _ fun p xs H1 _ s1 e1 d1 => hb H1 s1 _ fun p' ys H2 _ s2 e2 d2 => ⟨_, _, rfl, q p xs p' ys H2 (s1.trans s2) (s2 _ _ e1) (d1.mono s2) e2 d2⟩
end
section
variable {P : Program} {w : World} {K : PySem.W.Frag} {mg : Str → Option Value} {base : Heap}
def spCheaper (K : PySem.W.Frag) : Sp := spX K (α := List Str × Mach × Mach) (fun a => [machD a.1 a.2.1, machD a.1 a.2.2]) (fun a => MOk a.1 a.2.1 ∧ MOk a.1 a.2.2 ∧ Lite a.2.1 ∧ Lite a.2.2)
  (fun a r => ∃ R, r = machD a.1 R ∧ Made (a.2.1.n + a.2.2.n) (a.2.1.st ++ a.2.2.st.map (· + a.2.1.n)) (a.2.1.en ++ a.2.2.en.map (· + a.2.1.n)) (a.2.1.mv ++ a.2.2.mv.map (shift a.2.1.n)) R)
theorem ok_cheaper (T : Txt K mg) : FnOk P w K mg base CX0 8 T.A_cheaper.f T.A_cheaper.d ["machine", "other"] (spCheaper K) := by
  refine T.A_cheaper.F.ok sc_cheaper (fun vs H Q E h => ?_) (fun cdv A outer s H vs Q E hr h => ?_)
  · obtain ⟨a, hd, _⟩ := h; exact hd.length
  · obtain ⟨⟨lt, M, N⟩, hd, ⟨o1, o2, f1, f2⟩, q⟩ := h
    refine ⟨_, ((pss_cons (ps_expr (pe_call (ok_need_both_machines T) (hr.mono (by decide)) (by rfl) T.A_need_both_machines.g T.A_need_both_machines.F.kp T.A_need_both_machines.b .nil pass0 (pa_cons (pv 0) (pa_cons (pv 1) pa_nil))))
  (pss_cons (ps_asg (pv 0) (kgTup (K := K) rfl (pgs_cons (pg_name (i := 2) sc_cheaper.nd rfl (.inl rfl)) (pgs_cons (pg_name (i := 3) sc_cheaper.nd rfl (.inl rfl)) (pgs_cons (pg_name (i := 4) sc_cheaper.nd rfl (.inl rfl)) (pgs_cons (pg_name (i := 5) sc_cheaper.nd rfl (.inl rfl)) (pgs_cons (pg_name (i := 6) sc_cheaper.nd rfl (.inl rfl)) pgs_nil)))))))
  (pss_cons (ps_set (i := 7) sc_cheaper.nd rfl (.inl rfl) (pe_call (ok_moved_moves T) (hr.mono (by decide)) (by rfl) T.A_moved_moves.g T.A_moved_moves.F.kp T.A_moved_moves.b .nil pass0 (pa_cons (pe_ix (kIxT (K := K)) (pv 1) pe_int (fun _ _ => rfl)) (pa_cons (pv 3) pa_nil))))
  (pss_cons (ps_par (i := 8) (j := 9) (by rfl) sc_cheaper.nd rfl rfl (by decide) rfl rfl (pa_cons (pe_op op_cat (pe_callTy (kListOf (K := K)) (by rfl) T.n_list (by decide +kernel) (pa_cons (pv 4) pa_nil)) (pe_call (ok_moved T) (hr.mono (by decide)) (by rfl) T.A_moved.g T.A_moved.F.kp T.A_moved.b .nil pass0 (pa_cons (pe_ix (kIxT (K := K)) (pv 1) pe_int (fun _ _ => rfl)) (pa_cons (pv 3) pa_nil)))) (pa_cons (pe_op op_cat (pe_callTy (kListOf (K := K)) (by rfl) T.n_list (by decide +kernel) (pa_cons (pv 5) pa_nil)) (pe_call (ok_moved T) (hr.mono (by decide)) (by rfl) T.A_moved.g T.A_moved.F.kp T.A_moved.b .nil pass0 (pa_cons (pe_ix (kIxT (K := K)) (pv 1) pe_int (fun _ _ => rfl)) (pa_cons (pv 3) pa_nil)))) pa_nil)) (by rfl))
  (pss_one (ps_ret (pe_call (ok_made_machine T) (hr.mono (by decide)) (by rfl) T.A_made_machine.g T.A_made_machine.F.kp T.A_made_machine.b .nil pass0 (pa_cons (pv 2) (pa_cons (pe_op op_add (pv 3) (pe_ix (kIxT (K := K)) (pv 1) pe_int (fun _ _ => rfl))) (pa_cons (pv 8) (pa_cons (pv 9) (pa_cons (pe_op op_cat (pe_callTy (kListOf (K := K)) (by rfl) T.n_list (by decide +kernel) (pa_cons (pv 6) pa_nil)) (pv 7)) pa_nil))))))))))))), ?_⟩
    obtain ⟨x0, x1, rfl, h0, h1⟩ := hd.two
    have h0' := h0
    have h1' := h1
    rw [machD_eq] at h0' h1'
    obtain ⟨a1, a2, a3⟩ := f1
    obtain ⟨b1, b2, b3⟩ := f2
    simp only at a1 a2 a3 b1 b2 b3 o1 o2 h0' h1'
    refine evq_drop (evp_call (eva_cons (evd_v 0 rfl h0) (eva_cons (evd_v 1 rfl h1) eva_nil)) ⟨lt, M, N, rfl, o1, o2⟩) fun H1 r s1 _ => ?_
    refine evq_tup5 (evd_v 0 rfl (h0'.mono s1)) fun y1 y2 y3 y4 y5 H2 s2 d1 d2 d3 d4 d5 => ?_
    cases d2
    have h12 := h1'.mono (s1.trans s2)
    refine evq_setL (K := K) (evl_call (N.mv, M.n) (eva_cons (evd_ixT (i := 4) (evd_v 1 rfl h12) evd_int rfl) (eva_cons (evd_v 3 rfl (.int _)) eva_nil)) (by show N.mv.length ≤ 5000; omega)) fun pr xr H3 _ s3 e3 dd3 => ?_
    have h13 := h12.mono s3
    refine evq_parL (K := K) (ds := (zs (M.st ++ N.st.map (· + M.n))).map .int) (es := (zs (M.en ++ N.en.map (· + M.n))).map .int) (EvL.is (evl_cat (EvL.ls (evl_listT (evd_v 4 rfl (d3.mono s3)))) (EvL.ls (evl_call (N.st, M.n) (eva_cons (evd_ixT (i := 2) (evd_v 1 rfl h13) evd_int rfl) (eva_cons (evd_v 3 rfl (.int _)) eva_nil)) (by show N.st.length ≤ 5000; omega))) (by simp only [List.length_map]; omega)) (by rw [zs_map, List.map_append]))
      (EvL.is (evl_cat (EvL.ls (evl_listT (evd_v 5 rfl (d4.mono s3)))) (EvL.ls (evl_call (N.en, M.n) (eva_cons (evd_ixT (i := 3) (evd_v 1 rfl h13) evd_int rfl) (eva_cons (evd_v 3 rfl (.int _)) eva_nil)) (by show N.en.length ≤ 5000; omega))) (by simp only [List.length_map]; omega)) (by rw [zs_map, List.map_append])) fun p8 x8 p9 x9 H4 s4 e8 dd8 e9 dd9 => ?_
    refine evs_ret (evp_made (K := K) (n := M.n + N.n) (l1 := M.st ++ N.st.map (· + M.n)) (l2 := M.en ++ N.en.map (· + M.n)) (mv := M.mv ++ N.mv.map (shift M.n)) (evd_v 2 rfl ((d1.mono s3).mono s4)) (evd_ar (g := fun i j => i + j) (i := (M.n : Nat)) (j := (N.n : Nat)) (evd_v 3 rfl (.int _)) (evd_ixT (i := 1) (evd_v 1 rfl (h13.mono s4)) evd_int rfl))
      (EvLs.S (evls_v e8 dd8 (evr_v 8 rfl))) (EvLs.S (evls_v e9 dd9 (evr_v 9 rfl))) (EvL.M (EvL.is (evl_cat (EvL.ls (evl_listT (evd_v 6 rfl ((d5.mono s3).mono s4)))) (evls_v (s4 _ _ e3) (dd3.mono s4) (evr_v 7 rfl)) (by simp only [List.length_map]; omega)) (by rw [mv_map, List.map_append])))
      (by simp only [List.length_append, List.length_map]; omega) (by simp only [List.length_append, List.length_map]; omega) (by simp only [List.length_append, List.length_map]; omega)) fun v H5 r s5 p5 e5 => q v H5 r ((((s1.trans s2).trans s3).trans s4).trans s5) p5 e5
def spNeedPM (K : PySem.W.Frag) : Sp := spX K (α := List Str × Mach) (fun a => [machD a.1 a.2]) (fun a => MOk a.1 a.2 ∧ PlainM a.2) (fun _ r => r = .none)
theorem ok_need_plain_machine (T : Txt K mg) : FnOk P w K mg base CX0 7 T.A_need_plain_machine.f T.A_need_plain_machine.d ["machine"] (spNeedPM K) := by
  refine T.A_need_plain_machine.F.ok sc_need_plain_machine (fun vs H Q E h => ?_) (fun cdv A outer s H vs Q E hr h => ?_)
  · obtain ⟨a, hd, _⟩ := h; exact hd.length
  · obtain ⟨⟨lt, M⟩, hd, ⟨o, pl⟩, q⟩ := h
    refine ⟨_, ((pss_cons (ps_expr (pe_call (ok_need_machine T) (hr.mono (by decide)) (by rfl) T.A_need_machine.g T.A_need_machine.F.kp T.A_need_machine.b .nil pass0 (pa_cons (pv 0) pa_nil)))
  (pss_one (ps_expr (pe_call (ok_need_plain T) (hr.mono (by decide)) (by rfl) T.A_need_plain.g T.A_need_plain.F.kp T.A_need_plain.b .nil pass0 (pa_cons (pv 0) pa_nil)))))), ?_⟩
    obtain ⟨x0, rfl, h0⟩ := hd.single
    refine evq_drop (evp_call (eva_cons (evd_v 0 rfl h0) eva_nil) ⟨lt, M, rfl, o⟩) fun H1 r s1 _ => ?_
    exact evs_drop (evx_call (lt, M) (eva_cons (evd_v 0 rfl (h0.mono s1)) eva_nil) ⟨o.few, pl⟩) fun H2 r s2 _ => q _ H2 _ (s1.trans s2) .non rfl
def mir (m : Mx.Move) : Mx.Move := (m.2.2.2, m.2.1, m.2.2.1, m.1)
def spMirrored (K : PySem.W.Frag) : Sp := spX K (α := List Str × Mach) (fun a => [machD a.1 a.2]) (fun a => MOk a.1 a.2 ∧ PlainM a.2 ∧ Lite a.2) (fun a r => ∃ R, r = machD a.1 R ∧ Made a.2.n a.2.en a.2.st (a.2.mv.map mir) R)
theorem ok_mirrored_machine (T : Txt K mg) : FnOk P w K mg base CX0 8 T.A_mirrored_machine.f T.A_mirrored_machine.d ["machine"] (spMirrored K) := by
  refine T.A_mirrored_machine.F.ok sc_mirrored_machine (fun vs H Q E h => ?_) (fun cdv A outer s H vs Q E hr h => ?_)
  · obtain ⟨a, hd, _⟩ := h; exact hd.length
  · obtain ⟨⟨lt, M⟩, hd, ⟨o, pl, f1⟩, q⟩ := h
    refine ⟨_, ((pss_cons (ps_expr (pe_call (ok_need_plain_machine T) (hr.mono (by decide)) (by rfl) T.A_need_plain_machine.g T.A_need_plain_machine.F.kp T.A_need_plain_machine.b .nil pass0 (pa_cons (pv 0) pa_nil)))
  (pss_cons (ps_asg (pv 0) (kgTup (K := K) rfl (pgs_cons (pg_name (i := 1) sc_mirrored_machine.nd rfl (.inl rfl)) (pgs_cons (pg_name (i := 2) sc_mirrored_machine.nd rfl (.inl rfl)) (pgs_cons (pg_name (i := 3) sc_mirrored_machine.nd rfl (.inl rfl)) (pgs_cons (pg_name (i := 4) sc_mirrored_machine.nd rfl (.inl rfl)) (pgs_cons (pg_name (i := 5) sc_mirrored_machine.nd rfl (.inl rfl)) pgs_nil)))))))
  (pss_one (ps_ret (pe_call (ok_made_machine T) (hr.mono (by decide)) (by rfl) T.A_made_machine.g T.A_made_machine.F.kp T.A_made_machine.b .nil pass0 (pa_cons (pv 1) (pa_cons (pv 2) (pa_cons (pv 4) (pa_cons (pv 3) (pa_cons (pe_lc (own := [("p", 6), ("letter", 7), ("cost", 8), ("q", 9)]) (g := gTup K 4 (gCons (gName 6) (gCons (gName 7) (gCons (gName 8) (gCons (gName 9) (gNil)))))) (tt := tYes) rfl sc_mirrored_machine.nd (kiTup (K := K) (pv 5)) (blkOk_by (own := [("p", 6), ("letter", 7), ("cost", 8), ("q", 9)]) (N := ["machine", "letters", "states", "starts", "ends", "moves", "p", "letter", "cost", "q"]) (sc := defScope s_mirrored_machine) (by decide +kernel)) (fun _ _ _ _ _ => (kgTup (K := K) rfl (pgs_cons (pg_name (i := 6) sc_mirrored_machine.nd rfl (.inl rfl)) (pgs_cons (pg_name (i := 7) sc_mirrored_machine.nd rfl (.inl rfl)) (pgs_cons (pg_name (i := 8) sc_mirrored_machine.nd rfl (.inl rfl)) (pgs_cons (pg_name (i := 9) sc_mirrored_machine.nd rfl (.inl rfl)) pgs_nil)))))) (fun _ _ _ _ _ => pts_nil) (fun _ _ _ _ _ => (pe_tup (pa_cons (pv 9) (pa_cons (pv 7) (pa_cons (pv 8) (pa_cons (pv 6) pa_nil))))))) pa_nil))))))))))), ?_⟩
    obtain ⟨x0, rfl, h0⟩ := hd.single
    have h0' := h0
    rw [machD_eq] at h0'
    obtain ⟨a1, a2, a3⟩ := f1
    simp only at a1 a2 a3 o h0'
    refine evq_drop (evx_call (lt, M) (eva_cons (evd_v 0 rfl h0) eva_nil) ⟨o, pl⟩) fun H1 r s1 _ => ?_
    refine evq_tup5 (evd_v 0 rfl (h0'.mono s1)) fun y1 y2 y3 y4 y5 H2 s2 d1 d2 d3 d4 d5 => ?_
    refine evs_ret (evp_made (K := K) (n := M.n) (l1 := M.en) (l2 := M.st) (mv := M.mv.map mir) (evd_v 1 rfl d1) (evd_v 2 rfl d2) (evd_S (by rw [zs_map]; exact evd_v 4 rfl d4)) (evd_S (by rw [zs_map]; exact evd_v 3 rfl d3))
      (EvL.M (EvL.is (evl_moves (K := K) (L := M.mv) (f := fun m => some (mvD (mir m))) (evi_tup (evd_v 5 rfl d5)).same (by omega) fun m H3 hm s3 => ⟨evb_yes, ?_⟩) (by rw [List.filterMap_eq_map', mv_map, List.map_map]; rfl))) (by omega) (by omega) (by simp only [List.length_map]; omega)) fun v H3 r s3 p3 e3 => q v H3 r ((s1.trans s2).trans s3) p3 e3
    exact evd_tup (eva_cons (evd_v 9 rfl (.int _)) (eva_cons (evd_v 7 rfl (.int _)) (eva_cons (evd_v 8 rfl (.int _)) (eva_cons (evd_v 6 rfl (.int _)) eva_nil)))) (by simp [moveL])
def dbl (m : Mx.Move) : Mx.Move := (m.1, m.2.1, m.2.2.1 * 2, m.2.2.2)
end
end Kw

set_option maxRecDepth 100000
set_option maxHeartbeats 1000000
/-! cheaper, mirrored_machine, scaled -/
namespace Kw
open PySem PySem.Spec PyProof.Rows L2 KD Mx
section
variable {P : Program} {w : World} {K : PySem.W.Frag} {mg : Str → Option Value} {base : Heap}
theorem mulOk {c : Int} (h : c ≤ 25) (h0 : 0 ≤ c) : CMul c 2 := .inr ⟨by decide, by decide⟩
def spScaled (K : PySem.W.Frag) : Sp := spX K (α := List Str × Mach) (fun a => [machD a.1 a.2, .int 2]) (fun a => MOk a.1 a.2 ∧ PlainM a.2 ∧ Lite a.2 ∧ ∀ m ∈ a.2.mv, m.2.2.1 ≤ 25) (fun a r => ∃ R, r = machD a.1 R ∧ Made a.2.n a.2.st a.2.en (a.2.mv.map dbl) R)
theorem ok_scaled (T : Txt K mg) : FnOk P w K mg base CX0 8 T.A_scaled.f T.A_scaled.d ["machine", "factor"] (spScaled K) := by
  refine T.A_scaled.F.ok sc_scaled (fun vs H Q E h => ?_) (fun cdv A outer s H vs Q E hr h => ?_)
  · obtain ⟨a, hd, _⟩ := h; exact hd.length
  · obtain ⟨⟨lt, M⟩, hd, ⟨o, pl, f1, le⟩, q⟩ := h
    refine ⟨_, ((pss_cons (ps_expr (pe_call (ok_need_plain_machine T) (hr.mono (by decide)) (by rfl) T.A_need_plain_machine.g T.A_need_plain_machine.F.kp T.A_need_plain_machine.b .nil pass0 (pa_cons (pv 0) pa_nil)))
  (pss_cons (ps_if (pt_not (pt_val (pe_call (ok_within T) (hr.mono (by decide)) (by rfl) T.A_within.g T.A_within.F.kp T.A_within.b .nil pass0 (pa_cons (pv 1) (pa_cons pe_int (pa_cons (pe_glob (v := .int 50) rfl T.v_MOST_COST ⟨_, rfl⟩) pa_nil)))))) (pss_one ps_never) pss_nil)
  (pss_cons (ps_asg (pv 0) (kgTup (K := K) rfl (pgs_cons (pg_name (i := 2) sc_scaled.nd rfl (.inl rfl)) (pgs_cons (pg_name (i := 3) sc_scaled.nd rfl (.inl rfl)) (pgs_cons (pg_name (i := 4) sc_scaled.nd rfl (.inl rfl)) (pgs_cons (pg_name (i := 5) sc_scaled.nd rfl (.inl rfl)) (pgs_cons (pg_name (i := 6) sc_scaled.nd rfl (.inl rfl)) pgs_nil)))))))
  (pss_cons (ps_if (pt_val (pe_callB (kAny (K := K)) (by rfl) T.n_any (by decide +kernel) (pa_cons (pe_lc (own := [("move", 7)]) (g := gName 7) (tt := tYes) rfl sc_scaled.nd (kiTup (K := K) (pv 6)) (blkOk_by (own := [("move", 7)]) (N := ["machine", "factor", "letters", "states", "starts", "ends", "moves", "move", "p", "letter", "cost", "q"]) (sc := defScope s_scaled) (by decide +kernel)) (fun _ _ _ _ _ => (pg_name (i := 7) sc_scaled.nd rfl (.inl rfl))) (fun _ _ _ _ _ => pts_nil) (fun _ _ _ _ _ => (pe_cmpR op_gt (pe_op op_mul (pe_ix (kIxT (K := K)) (pv 7) pe_int (fun _ _ => rfl)) (pv 1)) (pe_glob (v := .int 50) rfl T.v_MOST_COST ⟨_, rfl⟩) (nomark _)))) pa_nil))) (pss_one ps_never) pss_nil)
  (pss_one (ps_ret (pe_call (ok_made_machine T) (hr.mono (by decide)) (by rfl) T.A_made_machine.g T.A_made_machine.F.kp T.A_made_machine.b .nil pass0 (pa_cons (pv 2) (pa_cons (pv 3) (pa_cons (pv 4) (pa_cons (pv 5) (pa_cons (pe_lc (own := [("p", 8), ("letter", 9), ("cost", 10), ("q", 11)]) (g := gTup K 4 (gCons (gName 8) (gCons (gName 9) (gCons (gName 10) (gCons (gName 11) (gNil)))))) (tt := tYes) rfl sc_scaled.nd (kiTup (K := K) (pv 6)) (blkOk_by (own := [("p", 8), ("letter", 9), ("cost", 10), ("q", 11)]) (N := ["machine", "factor", "letters", "states", "starts", "ends", "moves", "move", "p", "letter", "cost", "q"]) (sc := defScope s_scaled) (by decide +kernel)) (fun _ _ _ _ _ => (kgTup (K := K) rfl (pgs_cons (pg_name (i := 8) sc_scaled.nd rfl (.inl rfl)) (pgs_cons (pg_name (i := 9) sc_scaled.nd rfl (.inl rfl)) (pgs_cons (pg_name (i := 10) sc_scaled.nd rfl (.inl rfl)) (pgs_cons (pg_name (i := 11) sc_scaled.nd rfl (.inl rfl)) pgs_nil)))))) (fun _ _ _ _ _ => pts_nil) (fun _ _ _ _ _ => (pe_tup (pa_cons (pv 8) (pa_cons (pv 9) (pa_cons (pe_op op_mul (pv 10) (pv 1)) (pa_cons (pv 11) pa_nil))))))) pa_nil))))))))))))), ?_⟩
    obtain ⟨x0, x1, rfl, h0, h1⟩ := hd.two
    have h0' := h0
    rw [machD_eq] at h0'
    obtain ⟨a1, a2, a3⟩ := f1
    simp only at a1 a2 a3 o h0' le
    cases h1
    refine evq_drop (evx_call (lt, M) (eva_cons (evd_v 0 rfl h0) eva_nil) ⟨o, pl⟩) fun H1 r s1 _ => ?_
    refine evq_ifn (b := false) (evb_is (evb_not (evb_B (evd_callF (eva_cons (evd_v 1 rfl (.int 2)) (eva_cons (evd_int (K := K)) (eva_cons evd_int eva_nil))) (f_within_ok (by omega) (by omega))))) rfl) (fun z => nomatch z) fun _ H1' s1' => ?_
    refine evq_tup5 (evd_v 0 rfl ((h0'.mono s1).mono s1')) fun y1 y2 y3 y4 y5 H2 s2 d1 d2 d3 d4 d5 => ?_
    refine evq_ifn (b := false) (evb_B (evd_is (evd_any (bs := M.mv.map fun _ => false) ((evl_mapG (K := K) (l := M.mv) (g := mvD) (f := fun m => .bool false) (evi_tup (evd_v 6 rfl d5)).same (by omega) (fun _ _ _ _ _ => rfl) fun m x H3 hm s dx => ?_).is (by rw [List.map_map]; rfl))) (by congr 1; simp))) (fun z => nomatch z) fun _ H3 s3 => ?_
    · have cm : CMul m.2.2.1 2 := mulOk (le m hm) (pl m hm)
      refine evd_is (evd_lt (g := fun i j => decide (i > j)) (evd_arC (C := CMul) (g := fun i j => i * j) (i := m.2.2.1) (j := 2) (evd_ixT (i := 2) (ds := [.int (m.1 : Nat), .int (m.2.1 : Nat), .int m.2.2.1, .int (m.2.2.2 : Nat)]) (evd_v 7 rfl dx) evd_int rfl) (evd_v 1 rfl (.int 2)) cm) (evd_int (K := K))) ?_
      have := le m hm
      rw [decide_eq_false (by omega)]
    refine evs_ret (evp_made (K := K) (n := M.n) (l1 := M.st) (l2 := M.en) (mv := M.mv.map dbl) (evd_v 2 rfl (d1.mono s3)) (evd_v 3 rfl (d2.mono s3)) (evd_S (by rw [zs_map]; exact evd_v 4 rfl (d3.mono s3))) (evd_S (by rw [zs_map]; exact evd_v 5 rfl (d4.mono s3)))
      (EvL.M (EvL.is (evl_moves (K := K) (L := M.mv) (f := fun m => some (mvD (dbl m))) (evi_tup (evd_v 6 rfl (d5.mono s3))).same (by omega) fun m H3 hm s3 => ⟨evb_yes, ?_⟩) (by rw [List.filterMap_eq_map', mv_map, List.map_map]; rfl))) (by omega) (by omega) (by simp only [List.length_map]; omega)) fun v H3 r s4 p3 e3 => q v H3 r ((((s1.trans s1').trans s2).trans s3).trans s4) p3 e3
    have cm : CMul m.2.2.1 2 := mulOk (le m hm) (pl m hm)
    refine evd_tup (ds := [.int (m.1 : Nat), .int (m.2.1 : Nat), .int (m.2.2.1 * 2), .int (m.2.2.2 : Nat)]) (eva_cons (evd_v 8 rfl (.int _)) (eva_cons (evd_v 9 rfl (.int _)) (eva_cons (evd_arC (C := CMul) (g := fun i j => i * j) (evd_v 10 rfl (.int _)) (evd_v 1 rfl (.int 2)) cm) (eva_cons (evd_v 11 rfl (.int _)) eva_nil)))) (by simp)
end
end Kw

set_option maxRecDepth 100000
set_option maxHeartbeats 1000000
/-! repeated -/
namespace KD
open PySem PySem.Spec PyProof.Rows L2
section
variable {K : PySem.W.Frag} {H : Hp} {σ : L2.St} {te ta tb : TE} {tt : TT} {ds es : List PyData}
theorem evl_if {b : Bool} (h : EvB tt σ H b) (h1 : b = true → EvL K ta σ H ds) (h2 : b = false → EvL K tb σ H ds) : EvL K (tIf tt ta tb) σ H ds := fun H1 s Q q => h H1 s _ fun H2 s2 => by
  cases b with
  | true => exact iteT (h1 rfl H2 (s.trans s2) Q fun p xs H3 hp s3 e d => q p xs H3 (s2.free hp) (s2.trans s3) e d)
  | false => exact iteF (h2 rfl H2 (s.trans s2) Q fun p xs H3 hp s3 e d => q p xs H3 (s2.free hp) (s2.trans s3) e d)
theorem inV_nat {p : Nat} {l : List Nat} : inV (.int (p : Nat)) (l.map fun i : Nat => V.int (i : Nat)) = decide (p ∈ l) := by
  unfold inV
  induction l with
  | nil => simp
  | cons a l ih =>
    rw [List.map_cons, List.any_cons, ih]
    have e : eqV (V.int (a : Nat)) (V.int (p : Nat)) = decide ((a : Int) = (p : Int)) := by
      show ((a : Int) == (p : Int)) = _
      rfl
    rw [e]
    by_cases c : p = a
    · subst c; simp
    · have : ((a : Int)) ≠ (p : Int) := fun e => c (Int.ofNat.inj e).symm
      simp [c, this]
theorem flat_nats (l : List Nat) : (l.map fun i : Nat => V.int (i : Nat)).all flatV = true := by
  rw [List.all_map, List.all_eq_true]
  intro x _; rfl
theorem evd_inT {p : Nat} {l : List Nat} (ha : EvD K ta σ H (.int (p : Nat))) (hb : EvD K tb σ H (.tuple (l.map fun i : Nat => .int (i : Nat)))) : EvD K (tOp (rIn K false) ta tb) σ H (.bool (decide (p ∈ l))) := evd_op ha hb fun H1 s x y hx hy Q q => by
  cases hx
  obtain ⟨a, xs, rfl, h1, h2⟩ := hy.tupE
  have e : xs = l.map fun i : Nat => V.int (i : Nat) := by
    have := DqAll.of_ints (l.map fun i : Nat => (i : Int)) (by rw [List.map_map]; exact h2)
    rw [this, List.map_map]; rfl
  subst e
  refine ⟨a, _, rfl, .inr h1, rfl, flat_nats l, ?_⟩
  rw [inV_nat]
  exact q _ H1 (Same.refl _) (.bl _)
end
end KD
namespace Kw
open PySem PySem.Spec PyProof.Rows L2 KD Mx
def twoOf (l : List Nat) (p : Nat) : List Nat := if p ∈ l then [p + 1, 0] else [p + 1]
def repM (M : Mach) (m : Mx.Move) : List Mx.Move := (twoOf M.st m.1).flatMap fun s => (twoOf M.en m.2.2.2).map fun g => (s, m.2.1, m.2.2.1, g)
theorem twoOf_len (l : List Nat) (p : Nat) : (twoOf l p).length ≤ 2 := by unfold twoOf; split <;> simp
theorem repM_len (M : Mach) (m : Mx.Move) : (repM M m).length ≤ 4 := by
  refine Nat.le_trans (flat_len (b := 2) fun a _ => by rw [List.length_map]; exact twoOf_len _ _) ?_
  have := twoOf_len M.st m.1
  omega
theorem rep_len (M : Mach) (l : List Mx.Move) : (l.flatMap (repM M)).length ≤ l.length * 4 := flat_len fun a _ => repM_len M a
theorem evl_two {K : PySem.W.Frag} {H : Hp} {σ : L2.St} {ta tb : TE} {l : List Nat} {p : Nat} (ha : EvD K ta σ H (.int (p : Nat))) (hb : EvD K tb σ H (.tuple (l.map natD))) :
    EvL K (tIf (tTest (tOp (rIn K false) ta tb)) (tLst (tCons (tOp (rI0 fun i j => .int (i + j)) ta (tC (.int 1))) (tCons (tC (.int 0)) tNil))) (tLst (tCons (tOp (rI0 fun i j => .int (i + j)) ta (tC (.int 1))) tNil))) σ H ((twoOf l p).map natD) := by
  have h1 : EvD K (tOp (rI0 fun i j => .int (i + j)) ta (tC (.int 1))) σ H (natD (p + 1)) := evd_ar (g := fun i j => i + j) (i := (p : Nat)) (j := 1) ha evd_int
  refine evl_if (evb_test (evd_inT ha hb)) (fun h => ?_) fun h => ?_
  · have h := of_decide_eq_true h
    unfold twoOf
    rw [if_pos h]
    exact evl_lst (eva_cons h1 (eva_cons evd_int eva_nil)) (by simp)
  · have h := of_decide_eq_false h
    unfold twoOf
    rw [if_neg h]
    exact evl_lst (eva_cons h1 eva_nil) (by simp)
theorem natD_all {K : PySem.W.Frag} {H : Hp} {xs : List V} {l : List Nat} (d : DqAll K H xs (l.map natD)) : ∀ H', DqAll K H' xs (l.map natD) := fun H' => by
  have e : l.map natD = (zs l).map .int := (zs_map l).symm
  rw [e] at d ⊢
  rw [d.of_ints]
  exact .ints _
section
variable {P : Program} {w : World} {K : PySem.W.Frag} {mg : Str → Option Value} {base : Heap}
def spRepeated (K : PySem.W.Frag) : Sp := spX K (α := List Str × Mach) (fun a => [machD a.1 a.2]) (fun a => MOk a.1 a.2 ∧ Lite a.2) (fun a r => ∃ R, r = machD a.1 R ∧ Made (a.2.n + 1) [0] [0] (a.2.mv.flatMap (repM a.2)) R)
theorem ok_repeated_of (T : Txt K mg) : FnOk P w K mg base CX0 2 T.A_repeated_of.f T.A_repeated_of.d ["machine"] (spRepeated K) := by
  refine T.A_repeated_of.F.ok sc_repeated_of (fun vs H Q E h => ?_) (fun cdv A outer s H vs Q E hr h => ?_)
  · obtain ⟨a, hd, _⟩ := h; exact hd.length
  · obtain ⟨⟨lt, M⟩, hd, ⟨o, f1⟩, q⟩ := h
    refine ⟨_, ((pss_cons (ps_asg (pv 0) (kgTup (K := K) rfl (pgs_cons (pg_name (i := 1) sc_repeated_of.nd rfl (.inl rfl)) (pgs_cons (pg_name (i := 2) sc_repeated_of.nd rfl (.inl rfl)) (pgs_cons (pg_name (i := 3) sc_repeated_of.nd rfl (.inl rfl)) (pgs_cons (pg_name (i := 4) sc_repeated_of.nd rfl (.inl rfl)) (pgs_cons (pg_name (i := 5) sc_repeated_of.nd rfl (.inl rfl)) pgs_nil)))))))
  (pss_cons (ps_set (i := 6) sc_repeated_of.nd rfl (.inl rfl) (pe_lst pa_nil))
  (pss_cons (ps_for PassesOwn.never rfl (kiTup (K := K) (pv 5)) (kgTup (K := K) rfl (pgs_cons (pg_name (i := 7) sc_repeated_of.nd rfl (.inl rfl)) (pgs_cons (pg_name (i := 8) sc_repeated_of.nd rfl (.inr rfl)) (pgs_cons (pg_name (i := 9) sc_repeated_of.nd rfl (.inr rfl)) (pgs_cons (pg_name (i := 10) sc_repeated_of.nd rfl (.inl rfl)) pgs_nil)))))
    (pss_cons (ps_set (i := 11) sc_repeated_of.nd rfl (.inl rfl) (pe_ifExp (pt_cmpR (kInS (K := K)) (pv 7) (pv 3) rfl) (pe_lst (pa_cons (pe_op op_add (pv 7) pe_int) (pa_cons pe_int pa_nil))) (pe_lst (pa_cons (pe_op op_add (pv 7) pe_int) pa_nil))))
  (pss_cons (ps_set (i := 12) sc_repeated_of.nd rfl (.inr rfl) (pe_ifExp (pt_cmpR (kInS (K := K)) (pv 10) (pv 4) rfl) (pe_lst (pa_cons (pe_op op_add (pv 10) pe_int) (pa_cons pe_int pa_nil))) (pe_lst (pa_cons (pe_op op_add (pv 10) pe_int) pa_nil))))
  (pss_one (ps_expr (pe_bm PySem.F.plainAttrs_list PySem.F.slot_list_extend PySem.F.type_list_extend mt_extend (pv 6) (pa_cons (pe_lc2 (own := [("source", 13), ("goal", 14)]) (vs1 := [14]) (g := gName 13) (g1 := gName 14) (tt := tYes) (tt1 := tYes) rfl sc_repeated_of.nd (kiList (K := K) (pv 11)) (blkOk_by (own := [("source", 13), ("goal", 14)]) (N := ["machine", "letters", "states", "starts", "ends", "moves", "rows", "p", "letter", "cost", "q", "sources", "goals", "source", "goal"]) (sc := defScope s_repeated_of) (by decide +kernel)) (by decide) (fun _ _ _ _ _ => (pg_name (i := 13) sc_repeated_of.nd rfl (.inl rfl))) (fun _ _ _ _ _ => pts_nil) (fun _ _ _ _ _ => (kiList (K := K) (pv 12))) (fun _ _ _ _ _ => (pg_name (i := 14) sc_repeated_of.nd rfl (.inl rfl))) (fun _ _ _ _ _ => pts_nil) (fun _ _ _ _ _ => (pe_tup (pa_cons (pv 13) (pa_cons (pv 8) (pa_cons (pv 9) (pa_cons (pv 14) pa_nil))))))) pa_nil)))))))
  (pss_one (ps_ret (pe_call (ok_made_machine T) (hr.mono (by decide)) (by rfl) T.A_made_machine.g T.A_made_machine.F.kp T.A_made_machine.b .nil pass0 (pa_cons (pv 1) (pa_cons (pe_op op_add (pv 2) pe_int) (pa_cons (pe_lst (pa_cons pe_int pa_nil)) (pa_cons (pe_lst (pa_cons pe_int pa_nil)) (pa_cons (pv 6) pa_nil)))))))))))), ?_⟩
    obtain ⟨x0, rfl, h0⟩ := hd.single
    have h0' := h0
    rw [machD_eq] at h0'
    obtain ⟨a1, a2, a3⟩ := f1
    simp only at a1 a2 a3 o h0'
    refine evq_tup5 (evd_v 0 rfl h0') fun y1 y2 y3 y4 y5 H1 s1 d1 d2 d3 d4 d5 => ?_
    cases d2
    refine evq_setL (K := K) (evl_lst eva_nil (by simp)) fun F x6 H2 hF s2 e2 d2 => ?_
    cases d2
    refine evq_forG (K := K) (evi_tup (evd_v 5 rfl (d5.mono s2))) (fun Hb i σ' H' => ∃ s7 s8 s9 s10 s11 s12 : Option V, σ' = [some x0, some y1, some (.int (M.n : Nat)), some y3, some y4, some y5, some (.ref F), s7, s8, s9, s10, s11, s12, none, none] ∧ Same H1 H' ∧ Kp Hb H' ∧ ∃ acc, H' F = some (.lst acc) ∧ DqAll K H' acc (((M.mv.take i).flatMap (repM M)).map mvD))
      (fun Hb i σ' H' _ _ pv => ?_) (fun H3 s3 => ⟨_, _, _, _, _, _, rfl, s2.trans s3, .refl _, [], s3 _ _ e2, by simpa using DqAll.nil⟩) (fun H3 i d σ' H' x H'' s3 hd pv s4 dx => ?_) (fun H3 σ' H' s3 pv => ?_)
    · obtain ⟨_, _, _, _, _, _, _, _, kp, _⟩ := pv
      exact kp
    · obtain ⟨s7, s8, s9, s10, s11, s12, rfl, sH, kp, acc, eF, dF⟩ := pv
      obtain ⟨m, hm, rfl⟩ : ∃ m, M.mv[i]? = some m ∧ d = mvD m := by
        rw [List.getElem?_map] at hd
        cases e : M.mv[i]? with
        | none => rw [e] at hd; cases hd
        | some m => rw [e] at hd; exact ⟨m, rfl, (Option.some.inj hd).symm⟩
      refine gtup4_m dx ?_
      have s14 := sH.trans s4
      refine evq_setL (K := K) (ds := (twoOf M.st m.1).map natD) (evl_two (evd_v 7 rfl (.int (m.1 : Nat))) (evd_v 3 rfl (d3.mono s14))) fun p11 x11 H5 _ s5 e5 d5' => ?_
      refine evq_setL (K := K) (ds := (twoOf M.en m.2.2.2).map natD) (evl_two (evd_v 10 rfl (.int (m.2.2.2 : Nat))) (evd_v 4 rfl ((d4.mono s14).mono s5))) fun p12 x12 H6 _ s6 e6 d6 => ?_
      have lacc := dF.length
      have ltk : (M.mv.take i).length ≤ 8 := by rw [List.length_take]; omega
      have lr := rep_len M (M.mv.take i)
      rw [List.length_map] at lacc
      have eq : (((twoOf M.st m.1).map natD).flatMap fun d => ((twoOf M.en m.2.2.2).map natD).map fun e => PyData.tuple [d, .int (m.2.1 : Nat), .int m.2.2.1, e]) = (repM M m).map mvD := by
        unfold repM
        rw [List.map_flatMap, List.flatMap_map]
        refine flat_congr fun a _ => ?_
        rw [List.map_map, List.map_map]
        rfl
      refine evs_extend (K := K) (ds := (repM M m).map mvD) (s6 _ _ (s5 _ _ (s4 _ _ eF))) (by rw [List.length_map]; have := repM_len M m; omega) (evr_v 6 rfl) (EvL.is (evl_lc2R (K := K) (fs := fun _ => (twoOf M.en m.2.2.2).map natD) (f := fun d e => .tuple [d, .int (m.2.1 : Nat), .int m.2.2.1, e]) (Rl1 := fun _ H' => SqL K H' p12 x12 ∧ DqAll K H' x12 ((twoOf M.en m.2.2.2).map natD)) (evi_listS (.inl (.inl (s6 _ _ e5))) (d5'.mono s6) (evr_v 11 rfl)) (by rw [eq, List.length_map]; have := repM_len M m; omega)
        (fun D H7 H8 hD s7 _ _ sb => ⟨.inl (.inl (sb _ _ (fun e => by rw [← e, e6] at hD; cases hD) (s7 _ _ e6))), natD_all d6 H8⟩) (fun d x H7 hd s7 dx => evi_listF (.inl (.inl (s7 _ _ e6))) (natD_all d6 H7) (evr_v 12 rfl)) fun d e x y H7 hd he s7 dx dy => ?_) eq) fun zs' H7 s7 d7 => ?_
      · exact evd_tup (eva_cons (evd_v 13 rfl dx) (eva_cons (evd_v 8 rfl (.int _)) (eva_cons (evd_v 9 rfl (.int _)) (eva_cons (evd_v 14 rfl dy) eva_nil)))) (by simp)
      · have eF7 := s7 _ _ (s6 _ _ (s5 _ _ (s4 _ _ eF)))
        have s47 := ((s4.trans s5).trans s6).trans s7
        refine ⟨_, _, _, _, _, _, rfl, same_mut (sH.trans s47) hF, (kp.trans (.of s47)).trans (.updL eF7), _, upd_same, ?_⟩
        rw [take_next hm, List.flatMap_append, List.map_append, List.flatMap_cons, List.flatMap_nil, List.append_nil]
        exact ((dF.mono s47).append d7).kp (.updL eF7)
    · obtain ⟨s7, s8, s9, s10, s11, s12, rfl, sH, kp, acc, eF, dF⟩ := pv
      rw [List.length_map, List.take_length] at dF
      have lr := rep_len M M.mv
      refine evs_ret (evp_made (K := K) (n := M.n + 1) (l1 := [0]) (l2 := [0]) (mv := M.mv.flatMap (repM M)) (evd_v 1 rfl (d1.mono sH)) (evd_ar (g := fun i j => i + j) (i := (M.n : Nat)) (j := 1) (evd_v 2 rfl (.int _)) evd_int)
        (EvL.S (evl_lst (eva_cons evd_int eva_nil) (by decide))) (EvL.S (evl_lst (eva_cons evd_int eva_nil) (by decide))) (EvLs.M (evls_v eF (by rw [mv_map]; exact dF) (evr_v 6 rfl))) (by simp) (by simp) (by omega)) fun v H5 r s5 p5 e5 => q v H5 r ((s1.trans sH).trans s5) p5 e5
theorem ok_repeated (T : Txt K mg) : FnOk P w K mg base CX0 7 T.A_repeated.f T.A_repeated.d ["machine"] (spRepeated K) := by
  refine T.A_repeated.F.ok sc_repeated (fun vs H Q E h => ?_) (fun cdv A outer s H vs Q E hr h => ?_)
  · obtain ⟨a, hd, _⟩ := h; exact hd.length
  · obtain ⟨⟨lt, M⟩, hd, ⟨o, f1⟩, q⟩ := h
    refine ⟨_, ((pss_cons (ps_expr (pe_call (ok_need_machine T) (hr.mono (by decide)) (by rfl) T.A_need_machine.g T.A_need_machine.F.kp T.A_need_machine.b .nil pass0 (pa_cons (pv 0) pa_nil)))
  (pss_one (ps_ret (pe_call (ok_repeated_of T) (hr.mono (by decide)) (by rfl) T.A_repeated_of.g T.A_repeated_of.F.kp T.A_repeated_of.b .nil pass0 (pa_cons (pv 0) pa_nil)))))), ?_⟩
    obtain ⟨x0, rfl, h0⟩ := hd.single
    refine evq_drop (evp_call (eva_cons (evd_v 0 rfl h0) eva_nil) ⟨lt, M, rfl, o⟩) fun H1 r s1 _ => ?_
    exact evs_ret (evx_call (lt, M) (eva_cons (evd_v 0 rfl (h0.mono s1)) eva_nil) ⟨o, f1⟩) fun v H2 r s2 p2 e2 => q v H2 r (s1.trans s2) p2 e2
end
end Kw

set_option maxRecDepth 100000
set_option maxHeartbeats 1000000
/-! languages; restricted -/
namespace Kw
open PySem PySem.Spec PyProof.Rows L2 KD Mx
structure Lang where
  rows : List (List Nat)
  en : List Nat
def rowD (r : List Nat) : PyData := .tuple (r.map natD)
def langD (lt : List Str) (L : Lang) : PyData := .tuple [letD lt, .tuple (L.rows.map rowD), .tuple (L.en.map natD)]
structure LgOk (lt : List Str) (L : Lang) : Prop where
  lets : LetOk lt
  r1 : 1 ≤ L.rows.length
  r2 : L.rows.length ≤ 2
  row : ∀ r ∈ L.rows, r.length = lt.length ∧ ∀ s ∈ r, s < L.rows.length
  en : ∀ p ∈ L.en, p < L.rows.length
  en' : (zs L.en).Pairwise (· < ·)
  few : L.en.length ≤ 2
def spLang (K : PySem.W.Frag) (res : PyData) : Sp := spX K (α := List Str × Lang) (fun a => [langD a.1 a.2]) (fun a => LgOk a.1 a.2) (fun _ r => r = res)
def itemsD : PyData → List PyData
  | .tuple l => l
  | _ => []
theorem all_trues {l : List PyData} (h : ∀ d ∈ l, d = .bool true) : l = List.replicate l.length (.bool true) := by
  induction l with
  | nil => rfl
  | cons a l ih =>
    rw [List.length_cons, List.replicate_succ, h a List.mem_cons_self, ← ih fun d hd => h d (List.mem_cons_of_mem _ hd)]
section
variable {P : Program} {w : World} {K : PySem.W.Frag} {mg : Str → Option Value} {base : Heap}
theorem ok_is_language (T : Txt K mg) : FnOk P w K mg base CX0 4 T.A_is_language.f T.A_is_language.d ["thing"] (spLang K (.bool true)) := by
  refine T.A_is_language.F.ok sc_is_language (fun vs H Q E h => ?_) (fun cdv A outer s H vs Q E hr h => ?_)
  · obtain ⟨a, hd, _⟩ := h; exact hd.length
  · obtain ⟨⟨lt, L⟩, hd, o, q⟩ := h
    refine ⟨_, ((pss_cons (ps_if (PW.pt (pw_or (pt_not (pt_val (pe_call (ok_is_row T) (hr.mono (by decide)) (by rfl) T.A_is_row.g T.A_is_row.F.kp T.A_is_row.b .nil pass0 (pa_cons (pv 0) (pa_cons pe_int (pa_cons pe_int pa_nil)))))) (pw_or (pt_not (pt_val (pe_call (ok_are_letters T) (hr.mono (by decide)) (by rfl) T.A_are_letters.g T.A_are_letters.F.kp T.A_are_letters.b .nil pass0 (pa_cons (pe_ix (kIxT (K := K)) (pv 0) pe_int (fun _ _ => rfl)) pa_nil)))) (pw_or1 (pt_not (pt_val (pe_call (ok_is_row T) (hr.mono (by decide)) (by rfl) T.A_is_row.g T.A_is_row.F.kp T.A_is_row.b .nil pass0 (pa_cons (pe_ix (kIxT (K := K)) (pv 0) pe_int (fun _ _ => rfl)) (pa_cons pe_int (pa_cons (pe_glob (v := .int 100) rfl T.v_MOST_SMALL ⟨_, rfl⟩) pa_nil)))))))))) (pss_one (ps_ret pe_bl)) pss_nil)
  (pss_cons (ps_asg (pv 0) (kgTup (K := K) rfl (pgs_cons (pg_name (i := 1) sc_is_language.nd rfl (.inr rfl)) (pgs_cons (pg_name (i := 2) sc_is_language.nd rfl (.inr rfl)) (pgs_cons (pg_name (i := 3) sc_is_language.nd rfl (.inl rfl)) pgs_nil)))))
  (pss_cons (ps_if (pt_not (pt_val (pe_callB (kAll (K := K)) (by rfl) T.n_all (by decide +kernel) (pa_cons (pe_lc (own := [("row", 4)]) (g := gName 4) (tt := tYes) rfl sc_is_language.nd (kiTup (K := K) (pv 2)) (blkOk_by (own := [("row", 4)]) (N := ["thing", "letters", "rows", "ends", "row", "state"]) (sc := defScope s_is_language) (by decide +kernel)) (fun _ _ _ _ _ => (pg_name (i := 4) sc_is_language.nd rfl (.inl rfl))) (fun _ _ _ _ _ => pts_nil) (fun _ _ _ _ _ => (pe_call (ok_is_row T) (hr.mono (by decide)) (by rfl) T.A_is_row.g T.A_is_row.F.kp T.A_is_row.b .nil pass0 (pa_cons (pv 4) (pa_cons (pe_callB (kLen (K := K)) (by rfl) T.n_len (by decide +kernel) (pa_cons (pv 1) pa_nil)) (pa_cons (pe_callB (kLen (K := K)) (by rfl) T.n_len (by decide +kernel) (pa_cons (pv 1) pa_nil)) pa_nil)))))) pa_nil)))) (pss_one (ps_ret pe_bl)) pss_nil)
  (pss_cons (ps_if (pt_not (pt_val (pe_callB (kAll (K := K)) (by rfl) T.n_all (by decide +kernel) (pa_cons (pe_lc2 (own := [("row", 4), ("state", 5)]) (vs1 := [5]) (g := gName 4) (g1 := gName 5) (tt := tYes) (tt1 := tYes) rfl sc_is_language.nd (kiTup (K := K) (pv 2)) (blkOk_by (own := [("row", 4), ("state", 5)]) (N := ["thing", "letters", "rows", "ends", "row", "state"]) (sc := defScope s_is_language) (by decide +kernel)) (by decide) (fun _ _ _ _ _ => (pg_name (i := 4) sc_is_language.nd rfl (.inl rfl))) (fun _ _ _ _ _ => pts_nil) (fun _ _ _ _ _ => (kiTup (K := K) (pv 4))) (fun _ _ _ _ _ => (pg_name (i := 5) sc_is_language.nd rfl (.inl rfl))) (fun _ _ _ _ _ => pts_nil) (fun _ _ _ _ _ => (pe_call (ok_within T) (hr.mono (by decide)) (by rfl) T.A_within.g T.A_within.F.kp T.A_within.b .nil pass0 (pa_cons (pv 5) (pa_cons pe_int (pa_cons (pe_op op_sub (pe_callB (kLen (K := K)) (by rfl) T.n_len (by decide +kernel) (pa_cons (pv 2) pa_nil)) pe_int) pa_nil)))))) pa_nil)))) (pss_one (ps_ret pe_bl)) pss_nil)
  (pss_one (ps_ret (pe_call (ok_are_indexes T) (hr.mono (by decide)) (by rfl) T.A_are_indexes.g T.A_are_indexes.F.kp T.A_are_indexes.b .nil pass0 (pa_cons (pv 3) (pa_cons (pe_callB (kLen (K := K)) (by rfl) T.n_len (by decide +kernel) (pa_cons (pv 2) pa_nil)) pa_nil)))))))))), ?_⟩
    obtain ⟨x0, rfl, h0⟩ := hd.single
    obtain ⟨lets, r1, r2, row, en, en', few⟩ := o
    simp only at lets r1 r2 row en en' few
    have l6 := lets.few
    have v0 : EvD K (tVar 0) (L2.start ["thing", "letters", "rows", "ends", "row", "state"] [x0]) H (.tuple [letD lt, .tuple (L.rows.map rowD), .tuple (L.en.map natD)]) := evd_v 0 rfl h0
    refine evq_ifn (b := false) (evb_is (evb_or (a := false) (evb_is (evb_not (evb_B (evd_callF (eva_cons v0 (eva_cons evd_int (eva_cons evd_int eva_nil))) (f_row_ok (by simp) (by simp))))) rfl) fun _ => evb_or (a := false) (b := false) (evb_is (evb_not (evb_B (evd_callX (d := .bool true) (eva_cons (evd_ixT (i := 0) v0 evd_int rfl) eva_nil) ⟨lt, rfl, lets⟩ fun r e => e))) rfl) fun _ => evb_is (evb_not (evb_B (evd_callF (eva_cons (evd_ixT (i := 1) v0 evd_int rfl) (eva_cons evd_int (eva_cons evd_int eva_nil))) (f_row_ok (by rw [List.length_map]; omega) (by rw [List.length_map]; omega))))) rfl) rfl) (fun z => nomatch z) fun _ H1 s1 => ?_
    refine evq_tup3 (v0.mono s1) fun y1 y2 y3 H2 s2 d1 d2 d3 => ?_
    refine evq_ifn (b := false) (evb_is (evb_not (evb_B (evd_allT (n := L.rows.length) (evl_mapG (K := K) (l := L.rows) (g := rowD) (f := fun _ => .bool true) (evi_tup (evd_v 2 rfl d2)).same (by omega) (fun _ _ _ _ _ => rfl) fun r x H3 hr s3 dx => ?_) (map_true _)))) rfl) (fun z => nomatch z) fun _ H3 s3 => ?_
    · have e := (row r hr).1
      exact evd_callF (eva_cons (evd_v 4 rfl dx) (eva_cons (evd_is (evd_lenT (evd_v 1 rfl (d1.mono s3))) rfl) (eva_cons (evd_lenT (evd_v 1 rfl (d1.mono s3))) eva_nil))) (f_row_ok (by simp only [List.length_map]; omega) (by simp only [List.length_map]; omega))
    refine evq_ifn (b := false) (evb_is (evb_not (evb_B (evd_allT (evl_lc2R (K := K) (fs := itemsD) (f := fun _ _ => .bool true) (evi_tup (evd_v 2 rfl (d2.mono s3))).same ?_ hk_kp (fun d x H4 hd s4 dx => ?_) fun d e x y H4 hd he s4 dx dy => ?_) (all_trues fun d hd => by
      obtain ⟨a, _, h⟩ := List.mem_flatMap.mp hd
      obtain ⟨b, _, h⟩ := List.mem_map.mp h
      exact h.symm)))) rfl) (fun z => nomatch z) fun _ H4 s4 => ?_
    · refine Nat.le_trans (flat_len (b := 6) fun a ha => ?_) (by rw [List.length_map]; omega)
      obtain ⟨r, hr, rfl⟩ := List.mem_map.mp ha
      rw [List.length_map]
      show (r.map natD).length ≤ 6
      rw [List.length_map, (row r hr).1]
      omega
    · obtain ⟨r, hr, rfl⟩ := List.mem_map.mp hd
      exact evi_tup (evd_v 4 rfl dx)
    · obtain ⟨r, hr, rfl⟩ := List.mem_map.mp hd
      obtain ⟨p, hp, rfl⟩ := List.mem_map.mp (show e ∈ r.map natD from he)
      have := (row r hr).2 p hp
      exact evd_callF (eva_cons (evd_v 5 rfl dy) (eva_cons evd_int (eva_cons (evd_ar (g := fun i j => i - j) (evd_lenT (evd_v 2 rfl ((d2.mono s3).mono s4))) evd_int) eva_nil))) (f_within_ok (by omega) (by rw [List.length_map]; omega))
    · exact evs_retD (d := .bool true) (evd_callX (eva_cons (evd_v 3 rfl ((d3.mono s3).mono s4)) (eva_cons (evd_lenT (evd_v 2 rfl ((d2.mono s3).mono s4))) eva_nil)) ⟨L.en, L.rows.length, by rw [List.length_map]; unfold intsD; rw [zs_map], en, en', by omega⟩ fun r e => e) fun v H5 s5 p5 => q v H5 _ ((((s1.trans s2).trans s3).trans s4).trans s5) p5 rfl
theorem ok_need_language (T : Txt K mg) : FnOk P w K mg base CX0 5 T.A_need_language.f T.A_need_language.d ["language"] (spLang K .none) := by
  refine T.A_need_language.F.ok sc_need_language (fun vs H Q E h => ?_) (fun cdv A outer s H vs Q E hr h => ?_)
  · obtain ⟨a, hd, _⟩ := h; exact hd.length
  · obtain ⟨⟨lt, L⟩, hd, o, q⟩ := h
    refine ⟨_, ((pss_one (ps_if (pt_not (pt_val (pe_call (ok_is_language T) (hr.mono (by decide)) (by rfl) T.A_is_language.g T.A_is_language.F.kp T.A_is_language.b .nil pass0 (pa_cons (pv 0) pa_nil)))) (pss_one ps_never) pss_nil))), ?_⟩
    obtain ⟨x0, rfl, h0⟩ := hd.single
    exact evs_if (b := false) (evb_is (evb_not (evb_B (evx_callD (d := .bool true) (lt, L) (eva_cons (evd_v 0 rfl h0) eva_nil) o fun r e => e))) rfl) (fun z => nomatch z) fun _ H1 s1 => q _ H1 _ s1 .non rfl
theorem evq_two {H : Hp} {σ : L2.St} {ta : TE} {u : TS} {D : Ends} {i j : Nat} {n : Int} (ha : EvD K ta σ H (.int n)) (q : ∀ F H1, H F = none → Same H H1 → H1 F = some (.lst []) → u D ((σ.set i (some (.int n))).set j (some (.ref F))) H1) :
    tSeq (tAsg (tTup (tCons ta (tCons (tLst tNil) tNil))) (gTup K 2 (gCons (gName i) (gCons (gName j) gNil)))) u D σ H := ha.run (Same.refl _) fun v H1 s1 p1 => by
  cases p1
  refine ⟨by simp, fun F hF => ⟨by rw [sizeLine_eq]; simp, fun p hp => ?_⟩⟩
  have ne : F ≠ p := fun e => by rw [← e, upd_same] at hp; cases hp
  have s2 := same_new (o := .lst []) hF
  have s3 := same_new (o := .tup [.int n, .ref F]) hp
  exact ⟨p, [.int n, .ref F], rfl, .inl (.inl upd_same), rfl, _, _, rfl, _, _, rfl, rfl, q F _ (s1.free hF) ((s1.trans s2).trans s3) (by rw [upd_ne ne, upd_same])⟩
/-- a comprehension over a numbered row of rows -/
theorem evl_enumG {H : Hp} {σ : L2.St} {te : TE} {wi : TI} {i j : Nat} {α : Type} {L : List α} {g : α → PyData} {f : Nat → PyData} (hs : EvI Same K wi σ H (enumD (L.map g))) (hl : L.length ≤ 100000)
    (h : ∀ q a x H1, L[q]? = some a → Same H H1 → Dq K H1 x (g a) → EvD K te (((wipe σ [i, j]).set i (some (.int (q : Nat)))).set j (some x)) H1 (f q))
    (hw : ∀ x y : V, wipe (((wipe σ [i, j]).set i (some x)).set j (some y)) [i, j] = wipe σ [i, j] := by intro _ _; rfl) :
    EvL K (tLc wi (gTup K 2 (gCons (gName i) (gCons (gName j) gNil))) tYes te [i, j]) σ H ((List.range L.length).map f) := by
  have mem : ∀ d ∈ enumD (L.map g), ∃ q a, L[q]? = some a ∧ d = .tuple [.int (q : Nat), g a] := fun d hd => by
    obtain ⟨q, hq⟩ := List.mem_iff_getElem?.mp hd
    have hi := (List.getElem?_eq_some_iff.mp hq).1
    rw [enumD_length, List.length_map] at hi
    have e := List.getElem?_eq_getElem hi
    rw [enumD_get (d := g L[q]) (by rw [List.getElem?_map, e]; rfl)] at hq
    exact ⟨q, L[q], e, (Option.some.inj hq).symm⟩
  refine (evl_lcG (K := K) (f := fun d => match d with | .tuple (.int q :: _) => some (f q.toNat) | _ => some .none) hs (by rw [enumD_length, List.length_map]; exact hl) (fun d σ2 H1 => ∃ q a x, L[q]? = some a ∧ d = .tuple [.int (q : Nat), g a] ∧ Dq K H1 x (g a) ∧ σ2 = ((wipe σ [i, j]).set i (some (.int (q : Nat)))).set j (some x)) (fun d x H1 hd _ dx Q qq => ?_) fun d σ2 H1 hd s ⟨q, a, x, e, e1, dx, e2⟩ => ?_).is ?_
  · obtain ⟨q, a, e, rfl⟩ := mem d hd
    refine gtup2_d dx fun y z dy dz => ?_
    cases dy
    exact qq _ ⟨q, a, z, e, rfl, dz, rfl⟩ (hw _ _)
  · subst e1 e2
    exact ⟨evb_yes, by rw [Int.toNat_natCast]; exact h q a x H1 e s dx⟩
  · refine List.ext_getElem? fun n => ?_
    have : (enumD (L.map g)).filterMap (fun d => match d with | .tuple (.int q :: _) => some (f q.toNat) | _ => some .none) = (enumD (L.map g)).map (fun d => match d with | .tuple (.int q :: _) => f q.toNat | _ => .none) := by
      refine (fm_congr (g := fun d => some (match d with | .tuple (.int q :: _) => f q.toNat | _ => PyData.none)) fun d hd => ?_).trans (by rw [List.filterMap_eq_map'])
      obtain ⟨q, a, _, rfl⟩ := mem d hd
      rfl
    rw [this, List.getElem?_map]
    by_cases c : n < L.length
    · rw [enumD_get (d := g L[n]) (by rw [List.getElem?_map, List.getElem?_eq_getElem c]; rfl), range_at c]
      simp
    · rw [List.getElem?_eq_none (by rw [enumD_length, List.length_map]; omega), List.getElem?_eq_none (by simp; omega)]
      rfl
def resM (L : Lang) (m : Mx.Move) : List Mx.Move := (List.range L.rows.length).map fun q => (m.1 * L.rows.length + q, m.2.1, m.2.2.1, m.2.2.2 * L.rows.length + (L.rows.getD q []).getD m.2.1 0)
theorem resM_len (L : Lang) (m : Mx.Move) : (resM L m).length = L.rows.length := by unfold resM; simp
def prodL (l l' : List Nat) (k : Nat) : List Nat := l.flatMap fun p => l'.map fun q => p * k + q
def prodF (k : Nat) : PyData → PyData → PyData
  | .int p, .int q => natD (p.toNat * k + q.toNat)
  | _, _ => .none
theorem prod_code (l l' : List Nat) (k : Nat) : ((l.map natD).flatMap fun d => (l'.map natD).map (prodF k d)) = (prodL l l' k).map natD := by
  unfold prodL
  rw [List.map_flatMap, List.flatMap_map]
  refine flat_congr fun p _ => ?_
  rw [List.map_map, List.map_map]
  refine List.map_congr_left fun q _ => ?_
  show natD (Int.toNat (p : Int) * k + Int.toNat (q : Int)) = natD _
  simp
theorem mulK {p k : Nat} (hk : k ≤ 1000) : CMul (p : Int) (k : Int) := by
  have h1 : (1001 : Int) ≤ 2 ^ 64 := by decide
  exact .inr ⟨by omega, by omega⟩
theorem evd_pk {H : Hp} {σ : L2.St} {ta tb tc : TE} {p k q : Nat} (h1 : EvD K ta σ H (natD p)) (h2 : EvD K tb σ H (natD k)) (h3 : EvD K tc σ H (natD q)) (hk : k ≤ 1000) : EvD K (tOp (rI0 fun i j => .int (i + j)) (tOp (rI CMul fun i j => .int (i * j)) ta tb) tc) σ H (natD (p * k + q)) := by
  have e : natD (p * k + q) = .int ((p : Int) * (k : Int) + (q : Int)) := by unfold natD; push_cast; rfl
  rw [e]
  exact evd_ar (g := fun i j => i + j) (evd_arC (C := CMul) (g := fun i j => i * j) (i := (p : Nat)) (j := (k : Nat)) h1 h2 (mulK hk)) h3
theorem evd_pk0 {H : Hp} {σ : L2.St} {ta tb : TE} {p k : Nat} (h1 : EvD K ta σ H (natD p)) (h2 : EvD K tb σ H (natD k)) (hk : k ≤ 1000) : EvD K (tOp (rI CMul fun i j => .int (i * j)) ta tb) σ H (natD (p * k)) := by
  have e : natD (p * k) = .int ((p : Int) * (k : Int)) := by unfold natD; push_cast; rfl
  rw [e]
  exact evd_arC (C := CMul) (g := fun i j => i * j) (i := (p : Nat)) (j := (k : Nat)) h1 h2 (mulK hk)
theorem prodL_len {l l' : List Nat} {k b : Nat} (h : l'.length ≤ b) : (prodL l l' k).length ≤ l.length * b := flat_len fun a _ => by rw [List.length_map]; exact h
end
end Kw

set_option maxRecDepth 100000
set_option maxHeartbeats 1000000
/-! restricted -/
namespace Kw
open PySem PySem.Spec PyProof.Rows L2 KD Mx
section
variable {P : Program} {w : World} {K : PySem.W.Frag} {mg : Str → Option Value} {base : Heap}
def spRestr (K : PySem.W.Frag) : Sp := spX K (α := List Str × Mach × Lang) (fun a => [machD a.1 a.2.1, langD a.1 a.2.2]) (fun a => MOk a.1 a.2.1 ∧ LgOk a.1 a.2.2 ∧ Lite a.2.1)
  (fun a r => ∃ R, r = machD a.1 R ∧ Made (a.2.1.n * a.2.2.rows.length) (a.2.1.st.map (· * a.2.2.rows.length)) (prodL a.2.1.en a.2.2.en a.2.2.rows.length) (a.2.1.mv.flatMap (resM a.2.2)) R)
theorem rows_get {lt : List Str} {L : Lang} (o : LgOk lt L) {q : Nat} {r : List Nat} (h : L.rows[q]? = some r) {a : Nat} (ha : a < lt.length) : r[a]? = some ((L.rows.getD q []).getD a 0) := by
  have hl := (o.row r (List.mem_of_getElem? h)).1
  rw [List.getD_eq_getElem?_getD, List.getD_eq_getElem?_getD, h]
  have : a < r.length := by omega
  simp [List.getElem?_eq_getElem this]
theorem ok_restricted_to (T : Txt K mg) : FnOk P w K mg base CX0 2 T.A_restricted_to.f T.A_restricted_to.d ["machine", "language"] (spRestr K) := by
  refine T.A_restricted_to.F.ok sc_restricted_to (fun vs H Q E h => ?_) (fun cdv A outer s H vs Q E hr h => ?_)
  · obtain ⟨a, hd, _⟩ := h; exact hd.length
  · obtain ⟨⟨lt, M, L⟩, hd, ⟨o, lg, f1⟩, q⟩ := h
    refine ⟨_, ((pss_cons (ps_asg (pv 0) (kgTup (K := K) rfl (pgs_cons (pg_name (i := 2) sc_restricted_to.nd rfl (.inl rfl)) (pgs_cons (pg_name (i := 3) sc_restricted_to.nd rfl (.inl rfl)) (pgs_cons (pg_name (i := 4) sc_restricted_to.nd rfl (.inl rfl)) (pgs_cons (pg_name (i := 5) sc_restricted_to.nd rfl (.inl rfl)) (pgs_cons (pg_name (i := 6) sc_restricted_to.nd rfl (.inl rfl)) pgs_nil)))))))
  (pss_cons (ps_asg (pe_tup (pa_cons (pe_callB (kLen (K := K)) (by rfl) T.n_len (by decide +kernel) (pa_cons (pe_ix (kIxT (K := K)) (pv 1) pe_int (fun _ _ => rfl)) pa_nil)) (pa_cons (pe_lst pa_nil) pa_nil))) (kgTup (K := K) rfl (pgs_cons (pg_name (i := 7) sc_restricted_to.nd rfl (.inr rfl)) (pgs_cons (pg_name (i := 8) sc_restricted_to.nd rfl (.inl rfl)) pgs_nil))))
  (pss_cons (ps_for PassesOwn.never rfl (kiTup (K := K) (pv 6)) (kgTup (K := K) rfl (pgs_cons (pg_name (i := 9) sc_restricted_to.nd rfl (.inr rfl)) (pgs_cons (pg_name (i := 10) sc_restricted_to.nd rfl (.inr rfl)) (pgs_cons (pg_name (i := 11) sc_restricted_to.nd rfl (.inr rfl)) (pgs_cons (pg_name (i := 12) sc_restricted_to.nd rfl (.inr rfl)) pgs_nil)))))
    (pss_one (ps_expr (pe_bm PySem.F.plainAttrs_list PySem.F.slot_list_extend PySem.F.type_list_extend mt_extend (pv 8) (pa_cons (pe_lc (own := [("q", 14), ("row", 15)]) (g := gTup K 2 (gCons (gName 14) (gCons (gName 15) (gNil)))) (tt := tYes) rfl sc_restricted_to.nd (kiEnumT (K := K) (by rfl) T.n_enumerate (pa_cons (pe_ix (kIxT (K := K)) (pv 1) pe_int (fun _ _ => rfl)) pa_nil)) (blkOk_by (own := [("q", 14), ("row", 15)]) (N := ["machine", "language", "letters", "states", "starts", "ends", "moves", "many", "rows", "p", "letter", "cost", "r", "first", "q", "row"]) (sc := defScope s_restricted_to) (by decide +kernel)) (fun _ _ _ _ _ => (kgTup (K := K) rfl (pgs_cons (pg_name (i := 14) sc_restricted_to.nd rfl (.inl rfl)) (pgs_cons (pg_name (i := 15) sc_restricted_to.nd rfl (.inl rfl)) pgs_nil)))) (fun _ _ _ _ _ => pts_nil) (fun _ _ _ _ _ => (pe_tup (pa_cons (pe_op op_add (pe_op op_mul (pv 9) (pv 7)) (pv 14)) (pa_cons (pv 10) (pa_cons (pv 11) (pa_cons (pe_op op_add (pe_op op_mul (pv 12) (pv 7)) (pe_ix (kIxT (K := K)) (pv 15) (pv 10) (fun _ _ => rfl))) pa_nil))))))) pa_nil)))))
  (pss_cons (ps_setLc (i := 13) (own := [("p", 9)]) (g := gName 9) (tt := tYes) rfl sc_restricted_to.nd rfl rfl (sw_true rfl rfl rfl (by decide +kernel)) (kiTup (K := K) (pv 4)) (blkOk_by (own := [("p", 9)]) (N := ["machine", "language", "letters", "states", "starts", "ends", "moves", "many", "rows", "p", "letter", "cost", "r", "first", "q", "row"]) (sc := defScope s_restricted_to) (by decide +kernel)) (fun _ _ _ _ _ => (pg_name (i := 9) sc_restricted_to.nd rfl (.inl rfl))) (fun _ _ _ _ _ => pts_nil) (fun _ _ _ _ _ => (pe_op op_mul (pv 9) (pv 7))))
  (pss_one (ps_ret (pe_call (ok_made_machine T) (hr.mono (by decide)) (by rfl) T.A_made_machine.g T.A_made_machine.F.kp T.A_made_machine.b .nil pass0 (pa_cons (pv 2) (pa_cons (pe_op op_mul (pv 3) (pv 7)) (pa_cons (pv 13) (pa_cons (pe_lc2 (own := [("p", 9), ("q", 14)]) (vs1 := [14]) (g := gName 9) (g1 := gName 14) (tt := tYes) (tt1 := tYes) rfl sc_restricted_to.nd (kiTup (K := K) (pv 5)) (blkOk_by (own := [("p", 9), ("q", 14)]) (N := ["machine", "language", "letters", "states", "starts", "ends", "moves", "many", "rows", "p", "letter", "cost", "r", "first", "q", "row"]) (sc := defScope s_restricted_to) (by decide +kernel)) (by decide) (fun _ _ _ _ _ => (pg_name (i := 9) sc_restricted_to.nd rfl (.inl rfl))) (fun _ _ _ _ _ => pts_nil) (fun _ _ _ _ _ => (kiTup (K := K) (pe_ix (kIxT (K := K)) (pv 1) pe_int (fun _ _ => rfl)))) (fun _ _ _ _ _ => (pg_name (i := 14) sc_restricted_to.nd rfl (.inl rfl))) (fun _ _ _ _ _ => pts_nil) (fun _ _ _ _ _ => (pe_op op_add (pe_op op_mul (pv 9) (pv 7)) (pv 14)))) (pa_cons (pv 8) pa_nil))))))))))))), ?_⟩
    obtain ⟨x0, x1, rfl, h0, h1⟩ := hd.two
    have h0' := h0
    rw [machD_eq] at h0'
    obtain ⟨a1, a2, a3⟩ := f1
    simp only at a1 a2 a3 o h0' h1 lg
    have r1 := lg.r1
    have r2 := lg.r2
    have lf := lg.few
    refine evq_tup5 (evd_v 0 rfl h0') fun y1 y2 y3 y4 y5 H1 s1 d1 d2 d3 d4 d5 => ?_
    cases d2
    have h11 : Dq K H1 x1 (.tuple [letD lt, .tuple (L.rows.map rowD), .tuple (L.en.map natD)]) := h1.mono s1
    refine evq_two (K := K) (n := (L.rows.length : Nat)) (evd_is (evd_lenT (evd_ixT (i := 1) (f := .tuple (L.rows.map rowD)) (evd_v 1 rfl h11) evd_int rfl)) (by rw [List.length_map])) fun F H2 hF s2 e2 => ?_
    refine evq_forG (K := K) (evi_tup (evd_v 6 rfl (d5.mono s2))) (fun Hb i σ' H' => ∃ s9 s10 s11 s12 : Option V, σ' = [some x0, some x1, some y1, some (.int (M.n : Nat)), some y3, some y4, some y5, some (.int (L.rows.length : Nat)), some (.ref F), s9, s10, s11, s12, none, none, none] ∧ Same H1 H' ∧ Kp Hb H' ∧ ∃ acc, H' F = some (.lst acc) ∧ DqAll K H' acc (((M.mv.take i).flatMap (resM L)).map mvD))
      (fun Hb i σ' H' _ _ pv => ?_) (fun H3 s3 => ⟨_, _, _, _, rfl, s2.trans s3, .refl _, [], s3 _ _ e2, by simpa using DqAll.nil⟩) (fun H3 i d σ' H' x H'' s3 hd pv s4 dx => ?_) (fun H3 σ' H' s3 pv => ?_)
    · obtain ⟨_, _, _, _, _, _, kp, _⟩ := pv
      exact kp
    · obtain ⟨s9, s10, s11, s12, rfl, sH, kp, acc, eF, dF⟩ := pv
      obtain ⟨m, hm, rfl⟩ : ∃ m, M.mv[i]? = some m ∧ d = mvD m := by
        rw [List.getElem?_map] at hd
        cases e : M.mv[i]? with
        | none => rw [e] at hd; cases hd
        | some m => rw [e] at hd; exact ⟨m, rfl, (Option.some.inj hd).symm⟩
      have hmv := o.ok.mv m.1 m.2.1 m.2.2.1 m.2.2.2 (List.mem_of_getElem? hm)
      refine gtup4_m dx ?_
      have s14 := sH.trans s4
      have lacc := dF.length
      have ltk : (M.mv.take i).length ≤ 8 := by rw [List.length_take]; omega
      have lr : ((M.mv.take i).flatMap (resM L)).length ≤ (M.mv.take i).length * 2 := flat_len fun a _ => by rw [resM_len]; exact r2
      rw [List.length_map] at lacc
      refine evs_extend (K := K) (ds := (resM L m).map mvD) (s4 _ _ eF) (by rw [List.length_map, resM_len]; omega) (evr_v 8 rfl) (EvL.is (evl_enumG (K := K) (L := L.rows) (g := rowD) (f := fun q => mvD (m.1 * L.rows.length + q, m.2.1, m.2.2.1, m.2.2.2 * L.rows.length + (L.rows.getD q []).getD m.2.1 0)) (evi_enumT (evd_ixT (i := 1) (f := .tuple (L.rows.map rowD)) (evd_v 1 rfl (h11.mono s14)) evd_int rfl)).same (by omega) fun q r x H5 hq s5 dx5 => ?_) (by unfold resM; rw [List.map_map]; rfl)) fun zs' H7 s7 d7 => ?_
      · have hk : L.rows.length ≤ 1000 := by omega
        have va : ∀ {σ : L2.St}, σ[10]? = some (some (.int (m.2.1 : Nat))) → EvD K (tVar 10) σ H5 (.int (m.2.1 : Nat)) := fun h => evd_v 10 h (.int _)
        exact evd_tup (eva_cons (evd_pk (evd_v 9 rfl (.int _)) (evd_v 7 rfl (.int _)) (evd_v 14 rfl (.int _)) hk) (eva_cons (va rfl) (eva_cons (evd_v 11 rfl (.int _)) (eva_cons (evd_pk (evd_v 12 rfl (.int _)) (evd_v 7 rfl (.int _)) (evd_ixT (i := m.2.1) (ds := r.map natD) (evd_v 15 rfl dx5) (va rfl) (by rw [List.getElem?_map, rows_get lg hq hmv.2.1]; rfl)) hk) eva_nil)))) (by simp [moveL])
      · have eF7 := s7 _ _ (s4 _ _ eF)
        have s47 := s4.trans s7
        refine ⟨_, _, _, _, rfl, same_mut (sH.trans s47) (s1.free hF |> fun _ => hF), (kp.trans (.of s47)).trans (.updL eF7), _, upd_same, ?_⟩
        rw [take_next hm, List.flatMap_append, List.map_append, List.flatMap_cons, List.flatMap_nil, List.append_nil]
        exact ((dF.mono s47).append d7).kp (.updL eF7)
    · obtain ⟨s9, s10, s11, s12, rfl, sH, kp, acc, eF, dF⟩ := pv
      rw [List.length_map, List.take_length] at dF
      have hk : L.rows.length ≤ 1000 := by omega
      have lr : (M.mv.flatMap (resM L)).length ≤ M.mv.length * 2 := flat_len fun a _ => by rw [resM_len]; exact r2
      have le : (prodL M.en L.en L.rows.length).length ≤ M.en.length * 2 := prodL_len lf
      refine evq_setL (K := K) (ds := (M.st.map (· * L.rows.length)).map natD) (EvL.is (evl_mapG (K := K) (l := M.st) (g := natD) (f := fun p => natD (p * L.rows.length)) (evi_tup (evd_v 4 rfl (d3.mono sH))).same (by omega) (fun a _ b _ e => by rw [natD_inj e]) fun p x H5 hp s5 dx => evd_pk0 (evd_v 9 rfl dx) (evd_v 7 rfl (.int _)) hk) (by rw [List.map_map]; rfl)) fun p13 x13 H5 _ s5 e5 d5' => ?_
      have sH5 := sH.trans s5
      refine evs_ret (evp_made (K := K) (n := M.n * L.rows.length) (l1 := M.st.map (· * L.rows.length)) (l2 := prodL M.en L.en L.rows.length) (mv := M.mv.flatMap (resM L)) (evd_v 2 rfl (d1.mono sH5)) (evd_pk0 (p := M.n) (k := L.rows.length) (evd_v 3 rfl (.int _)) (evd_v 7 rfl (.int _)) hk)
        (EvLs.S (evls_v e5 (by rw [zs_map]; exact d5') (evr_v 13 rfl))) (EvL.S (EvL.is (evl_lc2R (K := K) (fs := fun _ => L.en.map natD) (f := prodF L.rows.length) (evi_tup (evd_v 5 rfl (d4.mono sH5))).same (by rw [prod_code, List.length_map]; omega) hk_kp (fun d x H6 _ s6 _ => evi_tup (evd_ixT (i := 2) (evd_v 1 rfl (h11.mono (sH5.trans s6))) evd_int rfl)) fun d e x y H6 hd he s6 dx dy => ?_) (by rw [prod_code, zs_map])))
        (EvLs.M (evls_v (s5 _ _ eF) (by rw [mv_map]; exact dF.mono s5) (evr_v 8 rfl))) (by rw [List.length_map]; omega) (by omega) (by omega)) fun v H6 r s6 p6 e6 => q v H6 r ((s1.trans sH5).trans s6) p6 e6
      obtain ⟨p, hp, rfl⟩ := List.mem_map.mp hd
      obtain ⟨p', hp', rfl⟩ := List.mem_map.mp he
      have := evd_pk (K := K) (evd_v 9 (σ := ((wipe ((wipe ([some x0, some x1, some y1, some (.int (M.n : Nat)), some y3, some y4, some y5, some (.int (L.rows.length : Nat)), some (.ref F), s9, s10, s11, s12, some (.ref p13), none, none] : L2.St) [9, 14]).set 9 (some x)) [14]).set 14 (some y))) rfl dx) (evd_v 7 rfl (.int _)) (evd_v 14 rfl dy) hk
      refine evd_is this ?_
      show natD (p * L.rows.length + p') = natD (Int.toNat (p : Int) * L.rows.length + Int.toNat (p' : Int))
      simp
theorem ok_restricted (T : Txt K mg) : FnOk P w K mg base CX0 7 T.A_restricted.f T.A_restricted.d ["machine", "language"] (spRestr K) := by
  refine T.A_restricted.F.ok sc_restricted (fun vs H Q E h => ?_) (fun cdv A outer s H vs Q E hr h => ?_)
  · obtain ⟨a, hd, _⟩ := h; exact hd.length
  · obtain ⟨⟨lt, M, L⟩, hd, ⟨o, lg, f1⟩, q⟩ := h
    refine ⟨_, ((pss_cons (ps_expr (pe_call (ok_need_machine T) (hr.mono (by decide)) (by rfl) T.A_need_machine.g T.A_need_machine.F.kp T.A_need_machine.b .nil pass0 (pa_cons (pv 0) pa_nil)))
  (pss_cons (ps_expr (pe_call (ok_need_language T) (hr.mono (by decide)) (by rfl) T.A_need_language.g T.A_need_language.F.kp T.A_need_language.b .nil pass0 (pa_cons (pv 1) pa_nil)))
  (pss_cons (ps_expr (pe_call (ok_need_alike T) (hr.mono (by decide)) (by rfl) T.A_need_alike.g T.A_need_alike.F.kp T.A_need_alike.b .nil pass0 (pa_cons (pe_ix (kIxT (K := K)) (pv 0) pe_int (fun _ _ => rfl)) (pa_cons (pe_ix (kIxT (K := K)) (pv 1) pe_int (fun _ _ => rfl)) pa_nil))))
  (pss_one (ps_ret (pe_call (ok_restricted_to T) (hr.mono (by decide)) (by rfl) T.A_restricted_to.g T.A_restricted_to.F.kp T.A_restricted_to.b .nil pass0 (pa_cons (pv 0) (pa_cons (pv 1) pa_nil))))))))), ?_⟩
    obtain ⟨x0, x1, rfl, h0, h1⟩ := hd.two
    refine evq_drop (evp_call (eva_cons (evd_v 0 rfl h0) eva_nil) ⟨lt, M, rfl, o⟩) fun H1 r s1 _ => ?_
    refine evq_drop (evx_call (lt, L) (eva_cons (evd_v 1 rfl (h1.mono s1)) eva_nil) lg) fun H2 r s2 _ => ?_
    have s12 := s1.trans s2
    refine evq_drop (evp_call (eva_cons (evd_ixT (i := 0) (evd_v 0 rfl (h0.mono s12)) evd_int rfl) (eva_cons (evd_ixT (i := 0) (evd_v 1 rfl (h1.mono s12)) evd_int rfl) eva_nil)) ⟨lt, rfl, o.lets⟩) fun H3 r s3 _ => ?_
    have s13 := s12.trans s3
    exact evs_ret (evx_call (lt, M, L) (eva_cons (evd_v 0 rfl (h0.mono s13)) (eva_cons (evd_v 1 rfl (h1.mono s13)) eva_nil)) ⟨o, lg, f1⟩) fun v H4 r s4 p4 e4 => q v H4 r (s13.trans s4) p4 e4
end
end Kw

set_option maxRecDepth 100000
set_option maxHeartbeats 1000000
/-! summed -/
namespace Kw
open PySem PySem.Spec PyProof.Rows L2 KD Mx
def sumOne (k : Nat) (m x : Mx.Move) : Mx.Move := (m.1 * k + x.1, m.2.1, m.2.2.1 + x.2.2.1, m.2.2.2 * k + x.2.2.2)
def sumL (N : Mach) (m : Mx.Move) (l : List Mx.Move) : List Mx.Move := (l.filter fun x => decide (x.2.1 = m.2.1)).map (sumOne N.n m)
def sumM (N : Mach) (m : Mx.Move) : List Mx.Move := sumL N m N.mv
structure Per (N : Mach) : Prop where
  per : ∀ a, (N.mv.filter fun x => decide (x.2.1 = a)).length ≤ 4
  cost : ∀ m ∈ N.mv, m.2.2.1 ≤ 25
theorem sumM_len {N : Mach} (p : Per N) (m : Mx.Move) : (sumM N m).length ≤ 4 := by
  unfold sumM sumL
  rw [List.length_map]
  exact p.per m.2.1
theorem sumL_snoc (N : Mach) (m x : Mx.Move) (l : List Mx.Move) : sumL N m (l ++ [x]) = if x.2.1 = m.2.1 then sumL N m l ++ [sumOne N.n m x] else sumL N m l := by
  unfold sumL
  rw [List.filter_append]
  by_cases h : x.2.1 = m.2.1
  · rw [if_pos h]; simp [h]
  · rw [if_neg h]; simp [h]
theorem sumL_le (N : Mach) (m : Mx.Move) (l : List Mx.Move) : (sumL N m l).length ≤ l.length := by
  unfold sumL
  rw [List.length_map]
  exact List.length_filter_le ..
section
variable {P : Program} {w : World} {K : PySem.W.Frag} {mg : Str → Option Value} {base : Heap}
theorem evl_prod {H : Hp} {σ : L2.St} {te : TE} {wi wi1 : TI} {i j k : Nat} {l l' : List Nat} (hs : EvI Same K wi σ H (l.map natD)) (hl : (prodL l l' k).length ≤ 100000)
    (h1 : ∀ x H1, Same H H1 → EvI Kp K wi1 ((wipe σ [i, j]).set i (some x)) H1 (l'.map natD))
    (h2 : ∀ (p q : Nat) x y H1, Same H H1 → Dq K H1 x (natD p) → Dq K H1 y (natD q) → EvD K te ((wipe ((wipe σ [i, j]).set i (some x)) [j]).set j (some y)) H1 (natD (p * k + q)))
    (hw1 : ∀ x : V, wipe ((wipe σ [i, j]).set i (some x)) [i, j] = wipe σ [i, j] := by intro _; rfl)
    (hw2 : ∀ x y : V, wipe ((wipe ((wipe σ [i, j]).set i (some x)) [j]).set j (some y)) [j] = wipe ((wipe σ [i, j]).set i (some x)) [j] := by intro _ _; rfl) :
    EvL K (tLc2 wi (gName i) tYes wi1 (gName j) tYes te [i, j] [j]) σ H ((zs (prodL l l' k)).map .int) :=
  (evl_lc2R (K := K) (fs := fun _ => l'.map natD) (f := prodF k) hs (by rw [prod_code, List.length_map]; exact hl) hk_kp (fun d x H1 _ s _ => h1 x H1 s) (fun d e x y H1 hd he s dx dy => by
    obtain ⟨p, hp, rfl⟩ := List.mem_map.mp hd
    obtain ⟨q, hq, rfl⟩ := List.mem_map.mp he
    refine evd_is (h2 p q x y H1 s dx dy) ?_
    show natD (p * k + q) = natD (Int.toNat (p : Int) * k + Int.toNat (q : Int))
    simp) hw1 hw2).is (by rw [prod_code, zs_map])
def spSummed (K : PySem.W.Frag) : Sp := spX K (α := List Str × Mach × Mach) (fun a => [machD a.1 a.2.1, machD a.1 a.2.2]) (fun a => (MOk a.1 a.2.1 ∧ MOk a.1 a.2.2) ∧ (PlainM a.2.1 ∧ PlainM a.2.2) ∧ (Lite a.2.1 ∧ Lite a.2.2) ∧ Per a.2.1 ∧ Per a.2.2)
  (fun a r => ∃ R, r = machD a.1 R ∧ Made (a.2.1.n * a.2.2.n) (prodL a.2.1.st a.2.2.st a.2.2.n) (prodL a.2.1.en a.2.2.en a.2.2.n) (a.2.1.mv.flatMap (sumM a.2.2)) R)
theorem ok_summed (T : Txt K mg) : FnOk P w K mg base CX0 8 T.A_summed.f T.A_summed.d ["machine", "other"] (spSummed K) := by
  refine T.A_summed.F.ok sc_summed (fun vs H Q E h => ?_) (fun cdv A outer s H vs Q E hr h => ?_)
  · obtain ⟨a, hd, _⟩ := h; exact hd.length
  · obtain ⟨⟨lt, M, N⟩, hd, ⟨⟨o1, o2⟩, ⟨pl1, pl2⟩, ⟨f1, f2⟩, per1, per2⟩, q⟩ := h
    refine ⟨_, ((pss_cons (ps_expr (pe_call (ok_need_machine T) (hr.mono (by decide)) (by rfl) T.A_need_machine.g T.A_need_machine.F.kp T.A_need_machine.b .nil pass0 (pa_cons (pv 0) pa_nil)))
  (pss_cons (ps_expr (pe_call (ok_need_plain T) (hr.mono (by decide)) (by rfl) T.A_need_plain.g T.A_need_plain.F.kp T.A_need_plain.b .nil pass0 (pa_cons (pv 0) pa_nil)))
  (pss_cons (ps_if (pt_not (pt_val (pe_call (ok_is_machine T) (hr.mono (by decide)) (by rfl) T.A_is_machine.g T.A_is_machine.F.kp T.A_is_machine.b .nil pass0 (pa_cons (pv 1) pa_nil)))) (pss_one ps_never) pss_nil)
  (pss_cons (ps_expr (pe_call (ok_need_plain T) (hr.mono (by decide)) (by rfl) T.A_need_plain.g T.A_need_plain.F.kp T.A_need_plain.b .nil pass0 (pa_cons (pv 1) pa_nil)))
  (pss_cons (ps_expr (pe_call (ok_need_alike T) (hr.mono (by decide)) (by rfl) T.A_need_alike.g T.A_need_alike.F.kp T.A_need_alike.b .nil pass0 (pa_cons (pe_ix (kIxT (K := K)) (pv 0) pe_int (fun _ _ => rfl)) (pa_cons (pe_ix (kIxT (K := K)) (pv 1) pe_int (fun _ _ => rfl)) pa_nil))))
  (pss_cons (ps_asg (pe_tup (pa_cons (pe_ix (kIxT (K := K)) (pv 1) pe_int (fun _ _ => rfl)) (pa_cons (pe_lst pa_nil) pa_nil))) (kgTup (K := K) rfl (pgs_cons (pg_name (i := 2) sc_summed.nd rfl (.inr rfl)) (pgs_cons (pg_name (i := 3) sc_summed.nd rfl (.inl rfl)) pgs_nil))))
  (pss_cons (ps_for PassesOwn.never rfl (kiTup (K := K) (pe_ix (kIxT (K := K)) (pv 0) pe_int (fun _ _ => rfl))) (kgTup (K := K) rfl (pgs_cons (pg_name (i := 4) sc_summed.nd rfl (.inl rfl)) (pgs_cons (pg_name (i := 5) sc_summed.nd rfl (.inl rfl)) (pgs_cons (pg_name (i := 6) sc_summed.nd rfl (.inl rfl)) (pgs_cons (pg_name (i := 7) sc_summed.nd rfl (.inl rfl)) pgs_nil)))))
    (pss_one (ps_for PassesOwn.never rfl (kiTup (K := K) (pe_ix (kIxT (K := K)) (pv 1) pe_int (fun _ _ => rfl))) (kgTup (K := K) rfl (pgs_cons (pg_name (i := 8) sc_summed.nd rfl (.inl rfl)) (pgs_cons (pg_name (i := 9) sc_summed.nd rfl (.inl rfl)) (pgs_cons (pg_name (i := 10) sc_summed.nd rfl (.inl rfl)) (pgs_cons (pg_name (i := 11) sc_summed.nd rfl (.inl rfl)) pgs_nil)))))
    (pss_one (ps_if (pt_cmpR op_eq (pv 5) (pv 9) (nomark _)) (pss_cons (ps_if (pt_cmpR op_gt (pe_op op_add (pv 6) (pv 10)) (pe_glob (v := .int 50) rfl T.v_MOST_COST ⟨_, rfl⟩) (nomark _)) (pss_one ps_never) pss_nil)
  (pss_one (ps_expr (pe_bm PySem.F.plainAttrs_list PySem.F.slot_list_append PySem.F.type_list_append mt_append (pv 3) (pa_cons (pe_tup (pa_cons (pe_op op_add (pe_op op_mul (pv 4) (pv 2)) (pv 8)) (pa_cons (pv 5) (pa_cons (pe_op op_add (pv 6) (pv 10)) (pa_cons (pe_op op_add (pe_op op_mul (pv 7) (pv 2)) (pv 11)) pa_nil))))) pa_nil))))) pss_nil)))))
  (pss_cons (ps_setLc2 (i := 12) (own := [("p", 4), ("q", 8)]) (vs1 := [8]) (g := gName 4) (g1 := gName 8) (tt := tYes) (tt1 := tYes) rfl sc_summed.nd rfl rfl (sw_true rfl rfl rfl (by decide +kernel)) (kiTup (K := K) (pe_ix (kIxT (K := K)) (pv 0) pe_int (fun _ _ => rfl))) (blkOk_by (own := [("p", 4), ("q", 8)]) (N := ["machine", "other", "many", "rows", "p", "letter", "cost", "r", "q", "own", "price", "s", "first", "last"]) (sc := defScope s_summed) (by decide +kernel)) (by decide) (fun _ _ _ _ _ => (pg_name (i := 4) sc_summed.nd rfl (.inl rfl))) (fun _ _ _ _ _ => pts_nil) (fun _ _ _ _ _ => (kiTup (K := K) (pe_ix (kIxT (K := K)) (pv 1) pe_int (fun _ _ => rfl)))) (fun _ _ _ _ _ => (pg_name (i := 8) sc_summed.nd rfl (.inl rfl))) (fun _ _ _ _ _ => pts_nil) (fun _ _ _ _ _ => (pe_op op_add (pe_op op_mul (pv 4) (pv 2)) (pv 8))))
  (pss_cons (ps_setLc2 (i := 13) (own := [("p", 4), ("q", 8)]) (vs1 := [8]) (g := gName 4) (g1 := gName 8) (tt := tYes) (tt1 := tYes) rfl sc_summed.nd rfl rfl (sw_true rfl rfl rfl (by decide +kernel)) (kiTup (K := K) (pe_ix (kIxT (K := K)) (pv 0) pe_int (fun _ _ => rfl))) (blkOk_by (own := [("p", 4), ("q", 8)]) (N := ["machine", "other", "many", "rows", "p", "letter", "cost", "r", "q", "own", "price", "s", "first", "last"]) (sc := defScope s_summed) (by decide +kernel)) (by decide) (fun _ _ _ _ _ => (pg_name (i := 4) sc_summed.nd rfl (.inl rfl))) (fun _ _ _ _ _ => pts_nil) (fun _ _ _ _ _ => (kiTup (K := K) (pe_ix (kIxT (K := K)) (pv 1) pe_int (fun _ _ => rfl)))) (fun _ _ _ _ _ => (pg_name (i := 8) sc_summed.nd rfl (.inl rfl))) (fun _ _ _ _ _ => pts_nil) (fun _ _ _ _ _ => (pe_op op_add (pe_op op_mul (pv 4) (pv 2)) (pv 8))))
  (pss_one (ps_ret (pe_call (ok_made_machine T) (hr.mono (by decide)) (by rfl) T.A_made_machine.g T.A_made_machine.F.kp T.A_made_machine.b .nil pass0 (pa_cons (pe_ix (kIxT (K := K)) (pv 0) pe_int (fun _ _ => rfl)) (pa_cons (pe_op op_mul (pe_ix (kIxT (K := K)) (pv 0) pe_int (fun _ _ => rfl)) (pv 2)) (pa_cons (pv 12) (pa_cons (pv 13) (pa_cons (pv 3) pa_nil)))))))))))))))))), ?_⟩
    obtain ⟨x0, x1, rfl, h0, h1⟩ := hd.two
    obtain ⟨a1, a2, a3⟩ := f1
    obtain ⟨b1, b2, b3⟩ := f2
    have h0' := h0
    have h1' := h1
    rw [machD_eq] at h0' h1'
    simp only at a1 a2 a3 b1 b2 b3 o1 o2 pl1 pl2 per1 per2 h0' h1'
    have n12 := o2.n12
    refine evq_drop (evp_call (eva_cons (evd_v 0 rfl h0) eva_nil) ⟨lt, M, rfl, o1⟩) fun H1 r s1 _ => ?_
    refine evq_drop (evx_call (lt, M) (eva_cons (evd_v 0 rfl (h0.mono s1)) eva_nil) ⟨by show M.mv.length ≤ 5000; omega, pl1⟩) fun H2 r s2 _ => ?_
    refine evq_ifn (b := false) (evb_is (evb_not (evb_B (evd_callX (d := .bool true) (eva_cons (evd_v 1 rfl (h1.mono (s1.trans s2))) eva_nil) ⟨lt, N, rfl, o2⟩ fun r e => e))) rfl) (fun z => nomatch z) fun _ H3 s3 => ?_
    have s03 := (s1.trans s2).trans s3
    refine evq_drop (evx_call (lt, N) (eva_cons (evd_v 1 rfl (h1.mono s03)) eva_nil) ⟨by show N.mv.length ≤ 5000; omega, pl2⟩) fun H4 r s4 _ => ?_
    have s04 := s03.trans s4
    refine evq_drop (evp_call (eva_cons (evd_ixT (i := 0) (evd_v 0 rfl (h0'.mono s04)) evd_int rfl) (eva_cons (evd_ixT (i := 0) (evd_v 1 rfl (h1'.mono s04)) evd_int rfl) eva_nil)) ⟨lt, rfl, o1.lets⟩) fun H5 r s5 _ => ?_
    have s05 := s04.trans s5
    refine evq_two (K := K) (n := (N.n : Nat)) (evd_ixT (i := 1) (evd_v 1 rfl (h1'.mono s05)) evd_int rfl) fun F H6 hF s6 e6 => ?_
    have hk : N.n ≤ 1000 := by omega
    have h06 := h0'.mono (s05.trans s6)
    have h05 := h0'.mono s05
    have h15 := h1'.mono s05
    refine evq_forG (K := K) (ds := M.mv.map mvD) (evi_tup (evd_ixT (i := 4) (evd_v 0 rfl h06) evd_int rfl)) (fun Hb i σ' H' => ∃ s4 s5 s6 s7 s8 s9 s10 s11 : Option V, σ' = [some x0, some x1, some (.int (N.n : Nat)), some (.ref F), s4, s5, s6, s7, s8, s9, s10, s11, none, none] ∧ Same H5 H' ∧ Kp Hb H' ∧ ∃ acc, H' F = some (.lst acc) ∧ DqAll K H' acc (((M.mv.take i).flatMap (sumM N)).map mvD))
      (fun Hb i σ' H' _ _ pv => ?_) (fun H3 s3 => ⟨_, _, _, _, _, _, _, _, rfl, s6.trans s3, .refl _, [], s3 _ _ e6, by simpa using DqAll.nil⟩) (fun H7 i d σ' H' x H'' s7 hd pv s8 dx => ?_) (fun H7 σ' H' s7 pv => ?_)
    · obtain ⟨_, _, _, _, _, _, _, _, _, _, kp, _⟩ := pv
      exact kp
    · obtain ⟨t4, t5, t6, t7, t8, t9, t10, t11, rfl, sH, kp, acc, eF, dF⟩ := pv
      obtain ⟨m, hm, rfl⟩ : ∃ m, M.mv[i]? = some m ∧ d = mvD m := by
        rw [List.getElem?_map] at hd
        cases e : M.mv[i]? with
        | none => rw [e] at hd; cases hd
        | some m => rw [e] at hd; exact ⟨m, rfl, (Option.some.inj hd).symm⟩
      refine gtup4_m dx ?_
      have s9 := sH.trans s8
      have lacc := dF.length
      have ltk : (M.mv.take i).length ≤ 8 := by rw [List.length_take]; omega
      have lr : ((M.mv.take i).flatMap (sumM N)).length ≤ (M.mv.take i).length * 4 := flat_len fun a _ => sumM_len per2 a
      rw [List.length_map] at lacc
      refine evs_forG (K := K) (ds := N.mv.map mvD) (evi_tup (evd_ixT (i := 4) (evd_v 1 rfl (h15.mono s9)) evd_int rfl)) (fun Hc j σ' H' => ∃ s8 s9 s10 s11 : Option V, σ' = [some x0, some x1, some (.int (N.n : Nat)), some (.ref F), some (.int (m.1 : Nat)), some (.int (m.2.1 : Nat)), some (.int m.2.2.1), some (.int (m.2.2.2 : Nat)), s8, s9, s10, s11, none, none] ∧ Same H5 H' ∧ Kp H7 H' ∧ Kp Hc H' ∧ ∃ acc, H' F = some (.lst acc) ∧ DqAll K H' acc (((M.mv.take i).flatMap (sumM N) ++ sumL N m (N.mv.take j)).map mvD))
        (fun Hb i σ' H' _ _ pv => ?_) (fun H3 s3 => ⟨_, _, _, _, rfl, s9.trans s3, kp.trans (.of (s8.trans s3)), .refl _, acc, s3 _ _ (s8 _ _ eF), by simpa [sumL] using dF.mono (s8.trans s3)⟩) (fun Hc j d σ' Hd y He sc hd2 pv s10 dy => ?_) (fun Hc σ' Hd sc pv => ?_)
      · obtain ⟨_, _, _, _, _, _, _, kp, _⟩ := pv
        exact kp
      · obtain ⟨t8, t9, t10, t11, rfl, sH2, kp2, kp3, acc2, eF2, dF2⟩ := pv
        obtain ⟨x', hx', rfl⟩ : ∃ m, N.mv[j]? = some m ∧ d = mvD m := by
          rw [List.getElem?_map] at hd2
          cases e : N.mv[j]? with
          | none => rw [e] at hd2; cases hd2
          | some m => rw [e] at hd2; exact ⟨m, rfl, (Option.some.inj hd2).symm⟩
        refine gtup4_m dy ?_
        have hne : decide (((m.2.1 : Nat) : Int) = ((x'.2.1 : Nat) : Int)) = decide (x'.2.1 = m.2.1) := by
          rw [decide_eq_decide]; omega
        refine evs_if (b := decide (x'.2.1 = m.2.1)) (evb_is (evb_test (evd_eq (K := K) (evd_v 5 rfl (.int (m.2.1 : Nat))) (evd_v 9 rfl (.int (x'.2.1 : Nat))) rfl)) hne) (fun hb Hf sf => ?_) fun hb Hf sf => ?_
        · have hb := of_decide_eq_true hb
          have c1 := per1.cost m (List.mem_of_getElem? hm)
          have c2 := per2.cost x' (List.mem_of_getElem? hx')
          refine evq_ifn (b := false) (evb_is (evb_test (evd_lt (g := fun i j => decide (i > j)) (evd_ar (g := fun i j => i + j) (evd_v 6 rfl (.int m.2.2.1)) (evd_v 10 rfl (.int x'.2.2.1))) (evd_int (K := K)))) (decide_eq_false (by omega))) (fun z => nomatch z) fun _ Hg sg => ?_
          have sfg := (s10.trans sf).trans sg
          have eF3 := sfg _ _ eF2
          have l2 := dF2.length
          have l3 := sumL_le N m (N.mv.take j)
          have l4 : (N.mv.take j).length ≤ 8 := by rw [List.length_take]; omega
          rw [List.length_map, List.length_append] at l2
          refine evs_append (K := K) (d := mvD (sumOne N.n m x')) eF3 (by omega) (evr_v 3 rfl) (evd_tup (eva_cons (evd_pk (evd_v 4 rfl (.int _)) (evd_v 2 rfl (.int _)) (evd_v 8 rfl (.int _)) hk) (eva_cons (evd_v 5 rfl (.int _)) (eva_cons (evd_ar (g := fun i j => i + j) (evd_v 6 rfl (.int m.2.2.1)) (evd_v 10 rfl (.int x'.2.2.1))) (eva_cons (evd_pk (evd_v 7 rfl (.int _)) (evd_v 2 rfl (.int _)) (evd_v 11 rfl (.int _)) hk) eva_nil)))) (by simp [moveL])) fun v Hh sh dh => ?_
          refine ⟨_, _, _, _, rfl, same_mut (sH2.trans (sfg.trans sh)) hF, (kp2.trans (.of (sfg.trans sh))).trans (.updL (sh _ _ eF3)), (kp3.trans (.of (sfg.trans sh))).trans (.updL (sh _ _ eF3)), _, upd_same, ?_⟩
          rw [take_next hx', sumL_snoc, if_pos hb, ← List.append_assoc, List.map_append]
          exact ((dF2.mono (sfg.trans sh)).kp (.updL (sh _ _ eF3))).snoc (dh.kp (.updL (sh _ _ eF3)))
        · have hb := of_decide_eq_false hb
          have sf2 := s10.trans sf
          refine ⟨_, _, _, _, rfl, sH2.trans sf2, kp2.trans (.of sf2), kp3.trans (.of sf2), acc2, sf2 _ _ eF2, ?_⟩
          rw [take_next hx', sumL_snoc, if_neg hb]
          exact dF2.mono sf2
      · obtain ⟨t8, t9, t10, t11, rfl, sH2, kp2, kp3, acc2, eF2, dF2⟩ := pv
        rw [List.length_map, List.take_length] at dF2
        refine ⟨_, _, _, _, _, _, _, _, rfl, sH2, kp2, acc2, eF2, ?_⟩
        rw [take_next hm, List.flatMap_append, List.flatMap_cons, List.flatMap_nil, List.append_nil]
        exact dF2
    · obtain ⟨t4, t5, t6, t7, t8, t9, t10, t11, rfl, sH, kp, acc, eF, dF⟩ := pv
      rw [List.length_map, List.take_length] at dF
      have lr : (M.mv.flatMap (sumM N)).length ≤ M.mv.length * 4 := flat_len fun a _ => sumM_len per2 a
      have l1 : (prodL M.st N.st N.n).length ≤ M.st.length * 4 := prodL_len b1
      have l2 : (prodL M.en N.en N.n).length ≤ M.en.length * 4 := prodL_len b2
      have hh0 := h05.mono sH
      have hh1 := h15.mono sH
      refine evq_setL (K := K) (ds := (zs (prodL M.st N.st N.n)).map .int) (evl_prod (K := K) (evi_tup (evd_ixT (i := 2) (evd_v 0 rfl hh0) evd_int rfl)).same (by omega) (fun x H8 s8 => evi_tup (evd_ixT (i := 2) (evd_v 1 rfl (hh1.mono s8)) evd_int rfl)) fun p q' x y H8 s8 dx dy => evd_pk (evd_v 4 rfl dx) (evd_v 2 rfl (.int _)) (evd_v 8 rfl dy) hk) fun p12 x12 H8 _ s8 e8 d8 => ?_
      refine evq_setL (K := K) (ds := (zs (prodL M.en N.en N.n)).map .int) (evl_prod (K := K) (evi_tup (evd_ixT (i := 3) (evd_v 0 rfl (hh0.mono s8)) evd_int rfl)).same (by omega) (fun x H9 s9 => evi_tup (evd_ixT (i := 3) (evd_v 1 rfl ((hh1.mono s8).mono s9)) evd_int rfl)) fun p q' x y H9 s9 dx dy => evd_pk (evd_v 4 rfl dx) (evd_v 2 rfl (.int _)) (evd_v 8 rfl dy) hk) fun p13 x13 H9 _ s9 e9 d9 => ?_
      have s89 := s8.trans s9
      refine evs_ret (evp_made (K := K) (n := M.n * N.n) (l1 := prodL M.st N.st N.n) (l2 := prodL M.en N.en N.n) (mv := M.mv.flatMap (sumM N)) (evd_ixT (i := 0) (evd_v 0 rfl (hh0.mono s89)) evd_int rfl) (evd_pk0 (p := M.n) (k := N.n) (evd_ixT (i := 1) (evd_v 0 rfl (hh0.mono s89)) evd_int rfl) (evd_v 2 rfl (.int _)) hk)
        (EvLs.S (evls_v (s9 _ _ e8) (d8.mono s9) (evr_v 12 rfl))) (EvLs.S (evls_v e9 d9 (evr_v 13 rfl))) (EvLs.M (evls_v (s89 _ _ eF) (by rw [mv_map]; exact dF.mono s89) (evr_v 3 rfl))) (by omega) (by omega) (by omega)) fun v H10 r s10 p10 e10 => q v H10 r (((s05.trans sH).trans s89).trans s10) p10 e10
end
end Kw

set_option maxRecDepth 100000
set_option maxHeartbeats 1000000
/-! d.update(e) of dicts; a dict of whole numbers out of a comprehension. -/
namespace KD
open PySem PySem.Spec PyProof.Rows L2
def rUpdK : V → List V → Hp → VK → Prop := fun x vs H Q => ∃ (a b : Addr) (kvs more : List (Key × V)), x = .ref a ∧ vs = [.ref b] ∧ H a = some (.dK kvs) ∧ H b = some (.dK more) ∧ a ≠ b ∧ kvs.length + more.length ≤ sizeLine ∧ Q .non (upd H a (.dK (mergeK kvs more)))
theorem mtd_update {X : Cx} : MtR X "dict.update" rUpdK := by
  intro pins s σ H x vs v us Q I rx rv h
  obtain ⟨a, b, kvs, more, rfl, rfl, ea, eb, ne, len, q⟩ := h
  obtain rfl : v = Value.ref a := rx
  rw [Vals.ref1 rv]
  obtain ⟨z, hd, vs, rel, dd⟩ := dk_of I.hok ea
  obtain ⟨z2, hd2, ws, rel2, dd2⟩ := dk_of I.hok eb
  refine call_meetsIn PySem.F.slot_dict_update dd.typeIs PySem.F.entry_dict_update (PySem.F.args_dict_update_2 _ _) (meets_dict_update (mixKind X.prog X.w) a b ne hd2) ⟨vs, ws, dd, dd2, by rw [← rel.length, ← rel2.length]; exact len, fun h' d' _ hs => ?_⟩
  have he : ∃ q, h'.get? a = some q := let ⟨q, _, _, hq, _⟩ := d'; ⟨q, hq⟩
  exact ⟨.non, _, d_write (t' := s.toks) I (by rw [ea]; exact True.intro) hs he (dk_new (Nat.le_trans (length_mergeK more kvs) len) hd (rel2.merge rel) d'), rfl, q⟩
section
variable {X : Cx} {o e : Expr} {to : TE} {t : TA} {apos cpos : Pos}
theorem kUpdate (ho : PE X o to) (ha : PA X [e] t) {K : PySem.W.Frag} (hK : X.K = K := by rfl)
    (hbase : attributeBase o "update" X.env (eval o X.env) = eval o X.env := by rfl)
    (hfew : ((backTo cpos (starEach [e] X.env)).all (fun x => !x.1) && (backToKw cpos (keywordEach [] X.env)).all (fun x => x.1.isSome)
      && decide (([e] : List Expr).length + ([] : List Keyword).length + (if ([] : List Keyword).isEmpty then 0 else 1) < 30)) = true := by rfl)
    (hline : (apos.endLine == cpos.line) = true := by rfl) (hs : starEach [e] X.env = (false, eval e X.env) :: starEach [] X.env := by rfl) (hplain : (backTo cpos (starEach [] X.env)).any (·.1) = false := by rfl) :
    PE X (.Call (.Attribute o "update" apos) [e] [] cpos) (tBM K "dict" rUpdK to t) := by
  subst hK
  exact pe_bm PySem.F.plainAttrs_dict PySem.F.slot_dict_update PySem.F.type_dict_update mtd_update ho ha hbase hfew hline hs hplain
end
/-! ### dicts of whole numbers -/
theorem fnd_put {α : Type} (l : List (Nat × α)) (s t : Nat) (v : α) : fnd (putN l s v) t = if t = s then some v else fnd l t := by
  unfold putN
  by_cases h : s ∈ l.map (·.1)
  · rw [if_pos h]
    induction l with
    | nil => simp at h
    | cons p l ih =>
      rw [List.map_cons, fnd_cons, fnd_cons]
      by_cases e : p.1 = s
      · rw [if_pos e]
        by_cases c : t = s
        · rw [if_pos c, if_pos (by simp only; rw [e, c])]
        · rw [if_neg c, if_neg (by simp only; rw [e]; exact fun z => c z.symm), if_neg (by rw [e]; exact fun z => c z.symm)]
          clear ih h
          induction l with
          | nil => rfl
          | cons q l ih =>
            rw [List.map_cons, fnd_cons, fnd_cons]
            by_cases e2 : q.1 = s
            · rw [if_pos e2, if_neg (by simp only; rw [e2]; exact fun z => c z.symm), if_neg (by rw [e2]; exact fun z => c z.symm), ih]
            · rw [if_neg e2, ih]
      · rw [if_neg e]
        have h' : s ∈ l.map (·.1) := by
          rw [List.map_cons, List.mem_cons] at h
          exact h.resolve_left fun z => e z.symm
        by_cases c : p.1 = t
        · rw [if_pos c, if_pos c, if_neg (by rw [← c]; exact e)]
        · rw [if_neg c, if_neg c, ih h']
  · rw [if_neg h]
    induction l with
    | nil =>
      show fnd [(s, v)] t = _
      rw [fnd_cons, fnd_nil]
      by_cases c : t = s
      · rw [if_pos c.symm, if_pos c]
      · rw [if_neg fun z => c z.symm, if_neg c]
    | cons p l ih =>
      rw [List.map_cons, List.mem_cons, not_or] at h
      rw [List.cons_append, fnd_cons, fnd_cons, ih h.2]
      by_cases c : p.1 = t
      · rw [if_pos c, if_pos c, if_neg (by rw [← c]; exact fun z => h.1 z.symm)]
      · rw [if_neg c, if_neg c]
theorem keys_put {α : Type} (l : List (Nat × α)) (s : Nat) (v : α) : (putN l s v).map (·.1) = if s ∈ l.map (·.1) then l.map (·.1) else l.map (·.1) ++ [s] := by
  unfold putN
  by_cases h : s ∈ l.map (·.1)
  · rw [if_pos h, if_pos h, List.map_map]
    refine List.map_congr_left fun p _ => ?_
    show (if p.1 = s then (p.1, v) else p).1 = p.1
    split <;> rfl
  · rw [if_neg h, if_neg h, List.map_append]; rfl
def putsN {α β : Type} (l : List (Nat × β)) (ks : List α) (f : α → Nat × β) : List (Nat × β) := ks.foldl (fun acc a => putN acc (f a).1 (f a).2) l
theorem putsN_snoc {α β : Type} (l : List (Nat × β)) (ks : List α) (a : α) (f : α → Nat × β) : putsN l (ks ++ [a]) f = putN (putsN l ks f) (f a).1 (f a).2 := by
  unfold putsN
  rw [List.foldl_append]; rfl
theorem putN_len {α : Type} (l : List (Nat × α)) (s : Nat) (v : α) : (putN l s v).length ≤ l.length + 1 := by
  unfold putN
  split
  · rw [List.length_map]; omega
  · rw [List.length_append]; simp
theorem putsN_len {α β : Type} (ks : List α) (f : α → Nat × β) : ∀ l : List (Nat × β), (putsN l ks f).length ≤ l.length + ks.length := by
  induction ks with
  | nil => intro l; exact Nat.le_refl _
  | cons a ks ih =>
    intro l
    have := ih (putN l (f a).1 (f a).2)
    have := putN_len l (f a).1 (f a).2
    show (putsN (putN l (f a).1 (f a).2) ks f).length ≤ _
    rw [List.length_cons]
    omega
theorem mergeK_kvN (m : List (Nat × V)) : ∀ l : List (Nat × V), mergeK (kvN l) (kvN m) = kvN (putsN l m id) := by
  induction m with
  | nil => intro l; rfl
  | cons p m ih =>
    intro l
    show mergeK (putK (kvN l) (.inl (p.1 : Int)) p.2) (kvN m) = _
    rw [putK_kvN, ih]; rfl
section
variable {Rl : Hp → Hp → Prop} {K : PySem.W.Frag} {H : Hp} {σ : L2.St} {te tk tv : TE} {wi : TI} {ds : List PyData} {α : Type} {Q : VK}
/-- {k: v for x in ..} -/
theorem dc_nats {g : TG} {vs : List Nat} {l : List α} {gd : α → PyData} {f : α → Nat × V} (hs : EvI Same K wi σ H (l.map gd)) (hl : l.length ≤ 100000)
    (h : ∀ a x H1, a ∈ l → Same H H1 → Dq K H1 x (gd a) → ∀ (R : V → V → Hp → Prop) (R' : Hp → Prop), (∀ H2, Same H1 H2 → R (.int ((f a).1 : Nat)) (f a).2 H2) → g x (wipe σ vs) H1 fun σ2 H2 => wipe σ2 vs = wipe σ vs ∧ tYes σ2 H2 fun b H3 => if b = true then tk σ2 H3 fun y H4 => tv σ2 H4 fun z H5 => R y z H5 else R' H3)
    (q : ∀ D H', H D = none → Same H H' → H' D = some (.dK (kvN (putsN [] l f))) → Q (.ref D) H') : tDc wi g tYes tk tv vs σ H Q := by
  refine hs H (Same.refl _) _ fun J H2 s2 it => fun D hD => ?_
  refine ⟨fun k m H' => m = l.length - k ∧ k ≤ l.length ∧ Same H2 H' ∧ H' D = some (.dK (kvN (putsN [] (l.take k) f))), ⟨l.length, by simp, Nat.zero_le _, same_new hD, upd_same⟩, ?_⟩
  rintro k m H' ⟨rfl, hk, s', eD⟩
  by_cases lt : k < l.length
  · have e : l[k]? = some l[k] := List.getElem?_eq_getElem lt
    have e' : (l.map gd)[k]? = some (gd l[k]) := by rw [List.getElem?_map, e]; rfl
    refine .inr ⟨it.go k _ H' e' s', fun H'' => k + 1 ≤ l.length ∧ Same H2 H'' ∧ H'' D = some (.dK (kvN (putsN [] (l.take (k + 1)) f))), fun H'' ⟨a, b, c⟩ => ⟨l.length - (k + 1), by omega, rfl, a, b, c⟩, fun x H'' y => ?_⟩
    obtain ⟨s3, dx⟩ := it.yld k _ x H' H'' e' s' y
    refine h l[k] x H'' (List.getElem_mem lt) (((s2.trans s').trans s3)) dx _ _ fun H4 s4 => ?_
    have eD4 := s4 _ _ (s3 _ _ eD)
    have hl2 := putsN_len (l.take k) f []
    rw [List.length_take, List.length_nil] at hl2
    refine ⟨_, .inl ((f l[k]).1 : Int), rfl, eD4, by rw [kvN, List.length_map, sizeLine_eq]; omega, lt, same_mut ((s'.trans s3).trans s4) hD, ?_⟩
    rw [upd_same, putK_kvN, List.take_add_one, e, Option.toList_some, putsN_snoc]
  · have hk' : k = l.length := by omega
    subst hk'
    rw [List.take_length] at eD
    refine .inl ⟨by have := it.stop H' s'; rw [List.length_map] at this; exact this, q D H' (s2.free hD) (s2.trans s') eD⟩
end
end KD

set_option maxRecDepth 100000
set_option maxHeartbeats 1000000
/-! spread_over -/
namespace Kw
open PySem PySem.Spec PyProof.Rows L2 KD Mx
inductive Reach (f : Nat → List Nat) (st : List Nat) : Nat → Prop
  | base {s : Nat} : s ∈ st → Reach f st s
  | step {p q : Nat} : Reach f st p → q ∈ f p → Reach f st q
/-- the search so far: keys found, waiting -/
structure Sea (f : Nat → List Nat) (st : List Nat) (n : Nat) (ks wl : List Nat) : Prop where
  nd : ks.Nodup
  lt : ∀ s ∈ ks, s < n
  sound : ∀ s ∈ ks, Reach f st s
  start : ∀ s ∈ st, s ∈ ks
  wait : ∀ s ∈ wl, s ∈ ks
  closed : ∀ s ∈ ks, s ∈ wl ∨ ∀ t ∈ f s, t ∈ ks
theorem Sea.end_ {f : Nat → List Nat} {st ks : List Nat} {n : Nat} (h : Sea f st n ks []) : ∀ s, s ∈ ks ↔ Reach f st s := fun s => by
  refine ⟨h.sound s, fun r => ?_⟩
  induction r with
  | base m => exact h.start _ m
  | step _ hq ih => exact ((h.closed _ ih).resolve_left (by simp)) _ hq
theorem Sea.next {f : Nat → List Nat} {st ks init new : List Nat} {n w : Nat} (h : Sea f st n ks (init ++ [w])) (hf : ∀ q, q < n → ∀ t ∈ f q, t < n) (nd : new.Nodup) (hn : ∀ t, t ∈ new ↔ t ∈ f w ∧ t ∉ ks) : Sea f st n (ks ++ new) (init ++ new) := by
  have hw : w ∈ ks := h.wait w (by simp)
  refine ⟨?_, fun s hs => ?_, fun s hs => ?_, fun s hs => List.mem_append_left _ (h.start s hs), fun s hs => ?_, fun s hs => ?_⟩
  · rw [List.nodup_append]
    exact ⟨h.nd, nd, fun a ha b hb e => ((hn b).mp hb).2 (e ▸ ha)⟩
  · rcases List.mem_append.mp hs with hs | hs
    · exact h.lt s hs
    · exact hf w (h.lt w hw) s ((hn s).mp hs).1
  · rcases List.mem_append.mp hs with hs | hs
    · exact h.sound s hs
    · exact .step (h.sound w hw) ((hn s).mp hs).1
  · rcases List.mem_append.mp hs with hs | hs
    · exact List.mem_append_left _ (h.wait s (List.mem_append_left _ hs))
    · exact List.mem_append_right _ hs
  · rcases List.mem_append.mp hs with hs | hs
    · rcases h.closed s hs with c | c
      · rcases List.mem_append.mp c with c | c
        · exact .inl (List.mem_append_left _ c)
        · simp at c
          subst c
          refine .inr fun t ht => ?_
          by_cases z : t ∈ ks
          · exact List.mem_append_left _ z
          · exact List.mem_append_right _ ((hn t).mpr ⟨ht, z⟩)
      · exact .inr fun t ht => List.mem_append_left _ (c t ht)
    · exact .inl (List.mem_append_right _ hs)
theorem keys_puts {α β : Type} (ks : List α) (f : α → Nat × β) : ∀ l : List (Nat × β), (l.map (·.1) ++ ks.map fun a => (f a).1).Nodup → (putsN l ks f).map (·.1) = l.map (·.1) ++ ks.map fun a => (f a).1 := by
  induction ks with
  | nil => intro l _; simp [putsN]
  | cons a ks ih =>
    intro l nd
    have nin : (f a).1 ∉ l.map (·.1) := fun h => by
      rw [List.nodup_append] at nd
      exact nd.2.2 _ h _ (by simp) rfl
    have e : (putN l (f a).1 (f a).2).map (·.1) = l.map (·.1) ++ [(f a).1] := by rw [keys_put, if_neg nin]
    show (putsN (putN l (f a).1 (f a).2) ks f).map (·.1) = _
    rw [ih _ (by rw [e, List.append_assoc]; exact nd), e, List.append_assoc]; rfl
/-- a list of n lists of whole numbers -/
structure Nxt (H : Hp) (p : Addr) (f : Nat → List Nat) (n : Nat) (B : Nat → Addr) : Prop where
  top : H p = some (.lst ((List.range n).map fun q => V.ref (B q)))
  row : ∀ q, q < n → H (B q) = some (.lst (natsV (f q)))
theorem Nxt.same {H H' : Hp} {p : Addr} {f : Nat → List Nat} {n : Nat} {B : Nat → Addr} (h : Nxt H p f n B) (s : Same H H') : Nxt H' p f n B := ⟨s _ _ h.top, fun q hq => s _ _ (h.row q hq)⟩
theorem natsV_zs (l : List Nat) : natsV l = (zs l).map V.int := by unfold natsV zs; rw [List.map_map]; rfl
theorem dq_nats {K : PySem.W.Frag} {H : Hp} (l : List Nat) : DqAll K H (natsV l) (l.map natD) := nats_all l
theorem last_split {l : List Nat} (h : l ≠ []) : ∃ init w, l = init ++ [w] := ⟨l.dropLast, l.getLast h, (List.dropLast_concat_getLast h).symm⟩
theorem fm_notin (ks : List Nat) : ∀ l : List Nat, (l.filterMap fun t => if t ∈ ks then none else some (natD t)) = (l.filter fun t => decide (t ∉ ks)).map natD
  | [] => rfl
  | a :: l => by
    rw [List.filterMap_cons, List.filter_cons]
    by_cases c : a ∈ ks
    · rw [if_pos c, if_neg (by simpa using c)]; exact fm_notin ks l
    · rw [if_neg c, if_pos (by simpa using c), List.map_cons, ← fm_notin ks l]
section
variable {P : Program} {w : World} {K : PySem.W.Frag} {mg : Str → Option Value} {base : Heap}
theorem seq_tup {ta tb : TE} {g : TG} {u : TS} {D : Ends} {σ : L2.St} {H : Hp} (h : ta σ H fun x H1 => (tCons tb tNil) σ H1 fun xs H2 => (x :: xs).length ≤ sizeLine ∧ ∀ p, H2 p = none → g (.ref p) σ (upd H2 p (.tup (x :: xs))) fun σ' H' => u D σ' H') : tSeq (tAsg (tTup (tCons ta (tCons tb tNil))) g) u D σ H := h
theorem putsN_nd {α β : Type} (l : List α) (f : α → Nat × β) : ∀ acc : List (Nat × β), (acc.map (·.1) ++ l.map fun a => (f a).1).Nodup → putsN acc l f = acc ++ l.map f := by
  induction l with
  | nil => intro acc _; simp [putsN]
  | cons a l ih =>
    intro acc nd
    have nin : (f a).1 ∉ acc.map (·.1) := fun h => by
      rw [List.nodup_append] at nd
      exact nd.2.2 _ h _ (by simp) rfl
    have e : putN acc (f a).1 (f a).2 = acc ++ [f a] := by unfold putN; rw [if_neg nin]
    show putsN (putN acc (f a).1 (f a).2) l f = _
    rw [e, ih _ (by rw [List.map_append, List.append_assoc]; exact nd), List.append_assoc]; rfl
theorem evq_lcS {ts te : TE} {tt : TT} {g : TG} {vs : List Nat} {u : TS} {D : Ends} {σ : L2.St} {H : Hp} {i : Nat} {Cn : Addr → Hp → Prop} (h : ∀ Q : VK, (∀ p8 H8, Cn p8 H8 → Q (.ref p8) H8) → ts σ H Q) (L : ∀ p8 H8, Cn p8 H8 → tLc (iList K (tC (.ref p8))) g tt te vs σ H8 fun v H9 => u D (σ.set i (some v)) H9) :
    tSeq (tAsg (tLc (iList K ts) g tt te vs) (gName i)) u D σ H := h _ fun p8 H8 c => L p8 H8 c
theorem evq_updDc {H : Hp} {σ : L2.St} {to tk tv : TE} {u : TS} {D : Ends} {wi : TI} {g : TG} {vs : List Nat} {α : Type} {p : Addr} {kvs : List (Nat × V)} {l : List α} {gd : α → PyData} {f : α → Nat × V} (ha : At1 to σ H (.ref p)) (hp : H p = some (.dK (kvN kvs))) (hs : EvI Same K wi σ H (l.map gd)) (hl : l.length ≤ 100000) (hz : kvs.length + l.length ≤ sizeLine) (nd : (l.map fun a => (f a).1).Nodup)
    (h : ∀ a x H1, a ∈ l → Same H H1 → Dq K H1 x (gd a) → ∀ (R : V → V → Hp → Prop) (R' : Hp → Prop), (∀ H2, Same H1 H2 → R (.int ((f a).1 : Nat)) (f a).2 H2) → g x (wipe σ vs) H1 fun σ2 H2 => wipe σ2 vs = wipe σ vs ∧ tYes σ2 H2 fun b H3 => if b = true then tk σ2 H3 fun y H4 => tv σ2 H4 fun z H5 => R y z H5 else R' H3)
    (q : ∀ H1 H2, Same H H1 → H2 = upd H1 p (.dK (kvN (putsN kvs l f))) → u D σ H2) : tSeq (tDrop (tBM K "dict" rUpdK to (tCons (tDc wi g tYes tk tv vs) tNil))) u D σ H :=
  ha _ ⟨.inr (.inr (.inl ⟨rfl, .inl ⟨_, hp⟩⟩)), dc_nats hs hl h fun D1 H1 hD1 s1 e1 => by
    have hl2 := putsN_len l f []
    refine ⟨p, D1, kvN kvs, kvN (putsN [] l f), rfl, rfl, s1 _ _ hp, e1, (fun e => by rw [← e, hp] at hD1; cases hD1), by rw [kvN, List.length_map, kvN, List.length_map]; rw [List.length_nil] at hl2; omega, ?_⟩
    refine q H1 _ s1 ?_
    rw [mergeK_kvN, putsN_nd l f [] (by simpa using nd), List.nil_append]
    unfold putsN
    rw [List.foldl_map]; rfl⟩
def spSpread (K : PySem.W.Frag) : Sp := fun vs H Q _ => ∃ (x : V) (p : Addr) (st : List Nat) (f : Nat → List Nat) (n : Nat) (B : Nat → Addr), vs = [x, .ref p] ∧ Dq K H x (.tuple (st.map natD)) ∧ Nxt H p f n B ∧ n ≤ 12 ∧ st.length ≤ 100 ∧ st.Nodup ∧ (∀ s ∈ st, s < n) ∧
  (∀ q, q < n → (f q).length ≤ 62 ∧ ∀ t ∈ f q, t < n) ∧ ∀ D kvs H', H D = none → Same H H' → H' D = some (.dK (kvN kvs)) → (∀ s, (fnd kvs s).isSome = true ↔ Reach f st s) → Q (.ref D) H'
theorem ok_spread_over (T : Txt K mg) : FnOk P w K mg base CX0 1 T.A_spread_over.f T.A_spread_over.d ["states", "nexts"] (spSpread K) := by
  refine T.A_spread_over.F.ok sc_spread_over (fun vs H Q E h => ?_) (fun cdv A outer s H vs Q E hr h => ?_)
  · obtain ⟨_, _, _, _, _, _, rfl, _⟩ := h; rfl
  · obtain ⟨x, p, st, f, n, B, rfl, hx, nx, n12, few, snd, slt, fok, q⟩ := h
    refine ⟨_, ((pss_cons (ps_asg (pe_tup (pa_cons (pe_dc (own := [("state", 5)]) (g := gName 5) (tt := tYes) rfl sc_spread_over.nd (kiTup (K := K) (pv 0)) (blkOk_by (own := [("state", 5)]) (N := ["states", "nexts", "found", "waiting", "new", "state"]) (sc := defScope s_spread_over) (by decide +kernel)) (fun _ _ _ _ _ => (pg_name (i := 5) sc_spread_over.nd rfl (.inl rfl))) (fun _ _ _ _ _ => pts_nil) (fun _ _ _ _ _ => (pv 5)) (fun _ _ _ _ _ => pe_bl)) (pa_cons (pe_callTy (kListOf (K := K)) (by rfl) T.n_list (by decide +kernel) (pa_cons (pv 0) pa_nil)) pa_nil))) (kgTup (K := K) rfl (pgs_cons (pg_name (i := 2) sc_spread_over.nd rfl (.inr rfl)) (pgs_cons (pg_name (i := 3) sc_spread_over.nd rfl (.inl rfl)) pgs_nil))))
  (pss_cons (ps_while PassesOwn.never (pt_cmpR (kNeD (K := K) (hu64 hr)) (pv 3) (pe_lst pa_nil) (nomark _))
    (pss_cons (ps_setLc (i := 4) (own := [("state", 5)]) (g := gName 5) rfl sc_spread_over.nd rfl rfl (sw_true rfl rfl rfl (by decide +kernel)) (kiList (K := K) (pe_callB (kSortedSetI (w := w) (by rfl) (hu64 hr)) (by rfl) T.n_sorted (by decide +kernel) (pa_cons (pe_callTy (kSetI (K := K) (w := w) (by rfl) (hu64 hr)) (by rfl) T.n_set (by decide +kernel) (pa_cons (pe_ix (kIxL (K := K)) (pv 1) (pe_bm0 PySem.F.plainAttrs_list PySem.F.slot_list_pop PySem.F.type_list_pop mt_pop (pv 3)) (fun _ _ => rfl)) pa_nil)) pa_nil))) (blkOk_by (own := [("state", 5)]) (N := ["states", "nexts", "found", "waiting", "new", "state"]) (sc := defScope s_spread_over) (by decide +kernel)) (fun _ _ _ _ _ => (pg_name (i := 5) sc_spread_over.nd rfl (.inl rfl))) (fun _ _ _ _ _ => pts_one (pt_cmp (pc_dnotin (hu_of hr) (pv 5) (pv 2)))) (fun _ _ _ _ _ => (pv 5)))
  (pss_cons (ps_expr (kUpdate (K := K) (pv 2) (pa_cons (pe_dc (own := [("state", 5)]) (g := gName 5) (tt := tYes) rfl sc_spread_over.nd (kiList (K := K) (pv 4)) (blkOk_by (own := [("state", 5)]) (N := ["states", "nexts", "found", "waiting", "new", "state"]) (sc := defScope s_spread_over) (by decide +kernel)) (fun _ _ _ _ _ => (pg_name (i := 5) sc_spread_over.nd rfl (.inl rfl))) (fun _ _ _ _ _ => pts_nil) (fun _ _ _ _ _ => (pv 5)) (fun _ _ _ _ _ => pe_bl)) pa_nil)))
  (pss_one (ps_expr (pe_bm PySem.F.plainAttrs_list PySem.F.slot_list_extend PySem.F.type_list_extend mt_extend (pv 3) (pa_cons (pv 4) pa_nil)))))))
  (pss_one (ps_ret (pv 2)))))), ?_⟩
    refine seq_tup ?_
    refine dc_nats (K := K) (l := st) (gd := natD) (f := fun s => (s, V.bl true)) (evi_tup (evd_v 0 rfl hx)).same (by omega) (fun a y H1 ha s1 dy R R' r => ?_) fun Da H1 hDa s1 eD => ?_
    · cases dy
      refine ⟨rfl, ?_⟩
      refine ⟨_, rfl, r H1 (Same.refl _)⟩
    obtain ⟨ax, xs, rfl, hax, hxs⟩ := hx.tupE
    have exs : xs = natsV st := by
      have := DqAll.of_ints (zs st) (by rw [zs_map]; exact hxs)
      rw [this, natsV_zs]
    subst exs
    refine ⟨_, rfl, ax, _, rfl, .inr (sqT_kp (.of s1) hax), fun W hW => ⟨by rw [sizeLine_eq]; simp, fun pp hpp => ?_⟩⟩
    have hW0 : H W = none := s1.free hW
    have neW : W ≠ pp := fun e => by rw [← e, upd_same] at hpp; cases hpp
    have neDW : Da ≠ W := fun e => by rw [← e, eD] at hW; cases hW
    have s2 := same_new (o := .lst (natsV st)) hW
    have s3 := same_new (o := .tup [.ref Da, .ref W]) hpp
    refine ⟨pp, [.ref Da, .ref W], rfl, .inl (.inl upd_same), rfl, _, _, rfl, _, _, rfl, rfl, ?_⟩
    have s13 := (s1.trans s2).trans s3
    have eD3 := s3 _ _ (s2 _ _ eD)
    have eW3 : (upd (upd H1 W (.lst (natsV st))) pp (.tup [.ref Da, .ref W])) W = some (.lst (natsV st)) := s3 _ _ upd_same
    have k0 : (putsN ([] : List (Nat × V)) st fun s => (s, V.bl true)).map (·.1) = st := by
      rw [keys_puts st _ [] (by simpa using snd)]; simp
    generalize (putsN ([] : List (Nat × V)) st fun s => (s, V.bl true)) = kv0 at eD3 k0
    have S0 : Sea f st n (kv0.map (·.1)) st := by
      rw [k0]
      exact ⟨snd, slt, fun s hs => .base hs, fun s hs => hs, fun s hs => hs, fun s hs => .inl hs⟩
    refine ⟨fun m σ' H' => ∃ (s4 : Option V) (kvs : List (Nat × V)) (wl : List Nat), σ' = [some (.ref ax), some (.ref p), some (.ref Da), some (.ref W), s4, none] ∧ Same H H' ∧ H' Da = some (.dK (kvN kvs)) ∧ H' W = some (.lst (natsV wl)) ∧ Sea f st n (kvs.map (·.1)) wl ∧ wl.length ≤ 1000 + kvs.length ∧ m = wl.length + 2 * (n - kvs.length), ⟨_, _, kv0, st, rfl, s13, eD3, eW3, S0, by omega, rfl⟩, ?_⟩
    rintro m σ1 Hm ⟨s4, kvs, wl, rfl, sH, eDm, eWm, S, wlen, rfl⟩
    have kl : kvs.length ≤ n := by
      have := nodup_len (m := List.range n) S.nd fun s hs => List.mem_range.mpr (S.lt s hs)
      rwa [List.length_map, List.length_range] at this
    refine (evb_test (evd_neNil (K := K) (n := 0) (.inl (.inl eWm)) (dq_nats wl) (fun d hd => ?_) (by decide) (evr_v 3 rfl))).use _ fun H5 s5 => ?_
    · obtain ⟨a, _, rfl⟩ := List.mem_map.mp hd
      exact good_int _
    have hwl : (!decide (wl.map natD = [])) = !decide (wl = []) := by congr 1; rw [decide_eq_decide, List.map_eq_nil_iff]
    rw [hwl]
    by_cases he : wl = []
    · subst he
      rw [if_neg (by simp)]
      refine ⟨_, rfl, q Da kvs H5 hDa (sH.trans s5) (s5 _ _ eDm) fun s => ?_⟩
      rw [fnd_isSome]
      exact S.end_ s
    · obtain ⟨init, wq, rfl⟩ := last_split he
      have hwq : wq ∈ kvs.map (·.1) := S.wait wq (by simp)
      have lwq := S.lt wq hwq
      rw [if_pos (by simp)]
      refine ⟨_, fun σ' H' h => h, ?_⟩
      have eW5 := s5 _ _ eWm
      have pop : (natsV (init ++ [wq]))[(natsV (init ++ [wq])).length - 1]? = some (.int (wq : Nat)) := by
        unfold natsV
        rw [List.map_append]
        simp
      have hdl : (natsV (init ++ [wq])).dropLast = natsV init := by
        unfold natsV
        rw [List.map_append]
        simp
      have s05 := sH.trans s5
      refine evq_lcS (K := K) (Cn := fun p8 H8 => ∃ yn : List Nat, Same H H8 ∧ H8 Da = some (.dK (kvN kvs)) ∧ H8 W = some (.lst (natsV init)) ∧ H8 p8 = some (.lst (natsV yn)) ∧ (zs yn).Pairwise (· < ·) ∧ (∀ s, s ∈ yn ↔ s ∈ f wq) ∧ yn.length ≤ 12) (fun Qx rx => ?_) ?_
      refine ⟨_, rfl, _, rfl, .inl ⟨rfl, _, .inl (.inl eW5)⟩, W, _, _, rfl, rfl, eW5, pop, ?_⟩
      rw [hdl]
      have kpW : Kp H5 (upd H5 W (.lst (natsV init))) := .updL eW5
      have s06 : Same H (upd H5 W (.lst (natsV init))) := same_mut s05 hW0
      have nx6 := nx.same s06
      have eD6 : (upd H5 W (.lst (natsV init))) Da = some (.dK (kvN kvs)) := by rw [upd_ne neDW]; exact s5 _ _ eDm
      have eW6 : (upd H5 W (.lst (natsV init))) W = some (.lst (natsV init)) := upd_same
      generalize (upd H5 W (.lst (natsV init))) = H6 at s06 nx6 eD6 eW6
      refine ⟨p, _, _, .ref (B wq), rfl, rfl, .inl (.inl nx6.top), atI_nat (range_at lwq), ?_⟩
      obtain ⟨fl, ft⟩ := fok wq lwq
      refine ⟨B wq, zs (f wq), rfl, .inl (.inl (.inl (by rw [← natsV_zs]; exact nx6.row wq lwq))), by rw [zs_len]; omega, fun p7 n7 hp7 hn7 => ?_⟩
      have s7 := same_new (o := SetO w p7 (fun j => decide (j ∈ zs (f wq))) n7) hp7
      refine ⟨p7, _, n7, rfl, upd_same, by rw [zs_len] at hn7; omega, fun ys p8 y1 y2 y3 hp8 => ?_⟩
      have s8 := same_new (o := .lst (ys.map V.int)) hp8
      obtain ⟨yn, rfl, yp, ym⟩ := to_nats (l := f wq) ⟨y1, fun k => by rw [y2]; simp⟩
      have s68 := s7.trans s8
      have e8 : (upd (upd H6 p7 (SetO w p7 (fun j => decide (j ∈ zs (f wq))) n7)) p8 (.lst ((zs yn).map V.int))) p8 = some (.lst (natsV yn)) := by rw [upd_same, natsV_zs]
      have yl : yn.length ≤ 12 := by
        have := nodup_len (m := List.range n) (zs_nodup yp) fun s hs => List.mem_range.mpr (ft s ((ym s).mp hs))
        rw [List.length_range] at this
        omega
      · exact rx p8 _ ⟨yn, s06.trans s68, s68 _ _ eD6, s68 _ _ eW6, e8, yp, ym, yl⟩
      rintro p8 H8 ⟨yn, s08, eD8, eW8, e8, yp, ym, yl⟩
      have L9 : EvL K (tLc (iList K (tC (.ref p8))) (gName 5) (tB (tDNotIn (tVar 5) (tVar 2))) (tVar 5) [5]) [some (.ref ax), some (.ref p), some (.ref Da), some (.ref W), s4, none] H8 ((yn.filter fun t => decide (t ∉ kvs.map (·.1))).map natD) := by
        refine EvL.is (evl_fmG (K := K) (l := yn) (g := natD) (f := fun t => if t ∈ kvs.map (·.1) then none else some (natD t)) (evi_listS (.inl (.inl e8)) (dq_nats yn) fun H1 s1 Q q => q H1 (Same.refl _)) (by omega) (fun a _ b _ e => by rw [natD_inj e]) fun t y H9 ht s9 dy => ?_) ?_
        · cases dy
          have tst : EvB (tB (tDNotIn (tVar 5) (tVar 2))) [some (.ref ax), some (.ref p), some (.ref Da), some (.ref W), s4, some (.int (t : Nat))] H9 (!(fnd kvs t).isSome) := evb_B (evd_dnotin (K := K) (.inl (s9 _ _ eD8)) (evr_v 2 rfl) (evd_v 5 rfl (.int _)))
          by_cases c : t ∈ kvs.map (·.1)
          · rw [if_pos c]
            exact evb_is tst (by rw [fnd_isSome.mpr c]; rfl)
          · rw [if_neg c]
            exact ⟨evb_is tst (by rw [fnd_none.mpr c]; rfl), evd_v 5 rfl (.int _)⟩
        · exact fm_notin _ _
      refine L9.use _ fun p9 x9 H9 hp9 s9 e9 d9 => ?_
      have en9 : x9 = natsV (yn.filter fun t => decide (t ∉ kvs.map (·.1))) := by
        have := DqAll.of_ints (zs (yn.filter fun t => decide (t ∉ kvs.map (·.1)))) (by rw [zs_map]; exact d9)
        rw [this, natsV_zs]
      subst en9
      have newnd : (yn.filter fun t => decide (t ∉ kvs.map (·.1))).Nodup := (zs_nodup yp).filter _
      have newmem : ∀ t, t ∈ (yn.filter fun t => decide (t ∉ kvs.map (·.1))) ↔ t ∈ f wq ∧ t ∉ kvs.map (·.1) := fun t => by rw [List.mem_filter, ym, decide_eq_true_eq]
      have newl : (yn.filter fun t => decide (t ∉ kvs.map (·.1))).length ≤ 12 := Nat.le_trans (List.length_filter_le ..) yl
      generalize (yn.filter fun t => decide (t ∉ kvs.map (·.1))) = new at d9 e9 newnd newmem newl
      have S' := S.next (fun q hq => (fok q hq).2) newnd newmem
      have s09 := s08.trans s9
      have eD9 := s9 _ _ eD8
      have eW9 := s9 _ _ eW8
      refine evq_updDc (K := K) (p := Da) (kvs := kvs) (l := new) (gd := natD) (f := fun t => (t, V.bl true)) (at_v 2 rfl) eD9 (evi_listS (.inl (.inl e9)) (dq_nats new) (evr_v 4 rfl)) (by omega) (by rw [sizeLine_eq]; omega) (by simpa using newnd) (fun a y H10 ha s10 dy R R' r => ?_) fun H10 H11 s10 e11 => ?_
      · cases dy
        exact ⟨rfl, _, rfl, r H10 (Same.refl _)⟩
      have eW10 := s10 _ _ eW9
      have neDW' : W ≠ Da := neDW.symm
      have eW11 : H11 W = some (.lst (natsV init)) := by rw [e11, upd_ne neDW']; exact eW10
      have ne4 : p9 ≠ Da := fun e => by rw [e, eD8] at hp9; cases hp9
      have e411 : H11 p9 = some (.lst (natsV new)) := by rw [e11, upd_ne ne4]; exact s10 _ _ e9
      have kvk : (putsN kvs new fun t => (t, V.bl true)).map (·.1) = kvs.map (·.1) ++ new := by
        rw [keys_puts new _ kvs (by simpa using S'.nd)]; simp
      have kvl : (putsN kvs new fun t => (t, V.bl true)).length = kvs.length + new.length := by
        have := congrArg List.length kvk
        simpa using this
      have kl2 : kvs.length + new.length ≤ n := by
        have := nodup_len (m := List.range n) S'.nd fun s hs => List.mem_range.mpr (S'.lt s hs)
        rwa [List.length_append, List.length_map, List.length_range] at this
      rw [List.length_append, List.length_singleton] at wlen
      refine ⟨_, rfl, .inl ⟨rfl, _, .inl (.inl eW11)⟩, _, rfl, W, p9, _, _, rfl, rfl, eW11, e411, by unfold natsV; rw [List.length_map, List.length_map, sizeLine_eq]; omega, ?_⟩
      refine ⟨(init ++ new).length + 2 * (n - (putsN kvs new fun t => (t, V.bl true)).length), ?_, _, _, init ++ new, rfl, ?_, ?_, ?_, by rw [kvk]; exact S', ?_, rfl⟩
      · rw [kvl, List.length_append, List.length_append, List.length_singleton]; omega
      · rw [e11]
        exact same_mut (same_mut (s09.trans s10) hDa) hW0
      · rw [upd_ne neDW, e11, upd_same]
      · rw [upd_same]
        unfold natsV
        rw [List.map_append]
      · rw [kvl, List.length_append]; omega
end
end Kw

set_option maxRecDepth 100000
set_option maxHeartbeats 1000000
/-! Lists of lists of one's own; numbered lists as dicts. -/
namespace Kw
open PySem PySem.Spec PyProof.Rows L2 KD Mx
/-- the lists of a Nxt are objects apart, and new -/
structure NApart (H0 : Hp) (n : Nat) (p : Addr) (B : Nat → Addr) : Prop where
  f : H0 p = none
  b : ∀ q, q < n → H0 (B q) = none
  bp : ∀ q, q < n → B q ≠ p
  inj : ∀ q q', q < n → q' < n → B q = B q' → q = q'
theorem nxt_of {f : Nat → List Nat} {n : Nat} {F : Addr} {own : List Addr} {H0 H : Hp} (h : LN (fun q => IN (zs (f q))) n F own H) (fr : ∀ b ∈ own, H0 b = none) (nd : own.Nodup) : ∃ B, Nxt H F f n B ∧ NApart H0 n F B ∧ F ∈ own ∧ ∀ q, q < n → B q ∈ own := by
  obtain ⟨L, lL, rfl, eF, hL⟩ := h
  have gl : ∀ a, a < n → L[a]? = some (L.getD a (0, [])) := fun a ha => by
    have : a < L.length := by omega
    rw [List.getD_eq_getElem?_getD, List.getElem?_eq_getElem this]; rfl
  have own1 : ∀ a, a < n → (L.getD a (0, [])).2 = [(L.getD a (0, [])).1] := fun a ha => (hL a _ (gl a ha)).2.1
  have inL : ∀ a, a < n → (L.getD a (0, [])).1 ∈ L.flatMap (·.2) := fun a ha => List.mem_flatMap.mpr ⟨_, List.mem_of_getElem? (gl a ha), (hL a _ (gl a ha)).1⟩
  rw [List.nodup_cons] at nd
  refine ⟨fun q => (L.getD q (0, [])).1, ⟨?_, fun q hq => ?_⟩, ⟨fr _ List.mem_cons_self, fun q hq => fr _ (List.mem_cons_of_mem _ (inL q hq)), fun q hq e => nd.1 (e ▸ inL q hq), fun q q' hq hq' e => ?_⟩, List.mem_cons_self, fun q hq => List.mem_cons_of_mem _ (inL q hq)⟩
  · rw [eF]
    congr 2
    exact list_by (by rw [List.length_map, lL]) _ fun a ha => by rw [List.getElem?_map, gl a ha]; rfl
  · rw [natsV_zs]
    exact (hL q _ (gl q hq)).2.2
  · by_cases c : q = q'
    · exact c
    · refine (nodup_flat nd.2 (gl q hq) (gl q' hq') c (x := (L.getD q (0, [])).1) (hL q _ (gl q hq)).1 ?_).elim
      rw [e]
      exact (hL q' _ (gl q' hq')).1
section
variable {f f' : Nat → List Nat} {n q t : Nat} {p p2 : Addr} {B B2 : Nat → Addr} {H0 H : Hp}
theorem Nxt.push (h : Nxt H p f n B) (ap : NApart H0 n p B) (hq : q < n) (hf : ∀ q', q' < n → f' q' = if q' = q then f q' ++ [t] else f q') : Nxt (upd H (B q) (.lst (natsV (f q) ++ [.int (t : Nat)]))) p f' n B := by
  refine ⟨?_, fun q' hq' => ?_⟩
  · rw [upd_ne (Ne.symm (ap.bp q hq))]; exact h.top
  · rw [hf q' hq']
    by_cases c : q' = q
    · subst c
      rw [if_pos rfl, upd_same]
      unfold natsV
      rw [List.map_append]; rfl
    · rw [if_neg c, upd_ne fun e => c (ap.inj q' q hq' hq e)]
      exact h.row q' hq'
theorem Nxt.other {x : Addr} {o : HO} (h : Nxt H p f n B) (h1 : x ≠ p) (h2 : ∀ q, q < n → x ≠ B q) : Nxt (upd H x o) p f n B := ⟨by rw [upd_ne (Ne.symm h1)]; exact h.top, fun q hq => by rw [upd_ne (Ne.symm (h2 q hq))]; exact h.row q hq⟩
end
theorem evq_parN {K : PySem.W.Frag} {H : Hp} {σ : L2.St} {ta tb : TE} {u : TS} {D : Ends} {i j : Nat} {N N' : Addr → List Addr → Hp → Prop} (hN : Stay N) (hT : There N) (ha : EvN N ta σ H) (hb : EvN N' tb σ H) (q : ∀ a own b own' H1, Same H H1 → N a own H1 → N' b own' H1 → (∀ x ∈ own, H x = none) → own.Nodup → (∀ x ∈ own', H x = none ∧ x ∉ own) → own'.Nodup → u D ((σ.set i (some (.ref a))).set j (some (.ref b))) H1) :
    tSeq (tPar i j (tCons ta (tCons tb tNil))) u D σ H := ha H (Same.refl _) _ fun a own H1 s1 n1 _ f1 nd1 => hb H1 s1 _ fun b own' H2 s2 n2 _ f2 nd2 => ⟨_, _, rfl, q a own b own' H2 (s1.trans s2) (hN _ _ _ _ n1 fun x hx => by
    obtain ⟨u, hu⟩ := hT _ _ _ n1 x hx
    rw [hu]; exact s2 _ _ hu) n2 f1 nd1 (fun x hx => ⟨s1.free (f2 x hx), fun hm => by
    obtain ⟨u, hu⟩ := hT _ _ _ n1 x hm
    rw [f2 x hx] at hu; cases hu⟩) nd2⟩
/-- the dict of numbers of a list without twins -/
def numK (ks : List Nat) : List (Nat × V) := putsN [] ((List.range ks.length).map fun i => (i, ks.getD i 0)) fun x => (x.2, .int (x.1 : Nat))
theorem numK_eq {ks : List Nat} (nd : ks.Nodup) : numK ks = (List.range ks.length).map fun i => (ks.getD i 0, V.int (i : Nat)) := by
  have e : ((List.range ks.length).map fun i => (i, ks.getD i 0)).map (fun a : Nat × Nat => ((fun x : Nat × Nat => (x.2, V.int (x.1 : Nat))) a).1) = ks := by
    rw [List.map_map]
    refine List.ext_getElem? fun i => ?_
    by_cases c : i < ks.length
    · rw [List.getElem?_map, List.getElem?_range c]
      simp [List.getD_eq_getElem?_getD, c]
    · rw [List.getElem?_eq_none (by simp; omega), List.getElem?_eq_none (by omega)]
  unfold numK
  rw [putsN_nd _ _ [] (by rw [e]; simpa using nd), List.nil_append, List.map_map]; rfl
theorem numK_keys {ks : List Nat} (nd : ks.Nodup) : (numK ks).map (·.1) = ks := by
  rw [numK_eq nd, List.map_map]
  refine List.ext_getElem? fun i => ?_
  by_cases c : i < ks.length
  · rw [List.getElem?_map, List.getElem?_range c]
    simp [List.getD_eq_getElem?_getD, c]
  · rw [List.getElem?_eq_none (by simp; omega), List.getElem?_eq_none (by omega)]
theorem numK_at {ks : List Nat} (nd : ks.Nodup) {i s : Nat} (h : ks[i]? = some s) : fnd (numK ks) s = some (.int (i : Nat)) := by
  have hi := (List.getElem?_eq_some_iff.mp h).1
  refine fnd_of (by rw [numK_keys nd]; exact nd) ?_
  rw [numK_eq nd]
  refine List.mem_map.mpr ⟨i, List.mem_range.mpr hi, ?_⟩
  rw [List.getD_eq_getElem?_getD, h]; rfl
theorem numK_in {ks : List Nat} (nd : ks.Nodup) (s : Nat) : (fnd (numK ks) s).isSome = decide (s ∈ ks) := by
  rw [Bool.eq_iff_iff, fnd_isSome, numK_keys nd, decide_eq_true_eq]
/-- the place of s in ks -/
def placeO (ks : List Nat) (s : Nat) : Option Nat := if s ∈ ks then some (ks.idxOf s) else none
theorem placeO_some {ks : List Nat} (nd : ks.Nodup) {s i : Nat} : placeO ks s = some i ↔ ks[i]? = some s := by
  unfold placeO
  constructor
  · intro h
    by_cases c : s ∈ ks
    · rw [if_pos c] at h
      cases h
      have := List.idxOf_lt_length_iff.mpr c
      rw [List.getElem?_eq_getElem this, List.getElem_idxOf this]
    · rw [if_neg c] at h; cases h
  · intro h
    rw [if_pos (List.mem_of_getElem? h)]
    have := idx_of_get nd h
    unfold idxG at this
    rw [this]
/-- the move with places for states -/
def placeM (ks : List Nat) (m : Mx.Move) : Option Mx.Move := match placeO ks m.1, placeO ks m.2.2.2 with
  | some i, some j => some (i, m.2.1, m.2.2.1, j)
  | _, _ => none
section
variable {K : PySem.W.Frag} {H : Hp} {σ : L2.St} {te : TE} {ds : List PyData}
theorem evi_enumS {p : Addr} {xs : List V} (hs : SqL K H p xs) (hd : DqAll K H xs ds) (ha : Ref te σ H p) : EvI Same K (iEnum K (tCons te tNil)) σ H (enumD ds) := fun H1 s R q => (evi_enumF hs hd ha) H1 s R fun J H2 s2 it => q J H2 s2
  ⟨fun H' s3 => it.stop H' ⟨sqL_same ((s.trans s2).trans s3) hs, hd.mono ((s.trans s2).trans s3)⟩, fun i d H' e s3 => it.go i d H' e ⟨sqL_same ((s.trans s2).trans s3) hs, hd.mono ((s.trans s2).trans s3)⟩, fun i d x H' H'' e s3 y => it.yld i d x H' H'' e ⟨sqL_same ((s.trans s2).trans s3) hs, hd.mono ((s.trans s2).trans s3)⟩ y⟩
theorem enumD_nats (ks : List Nat) : enumD (ks.map natD) = ((List.range ks.length).map fun i => (i, ks.getD i 0)).map fun x => PyData.tuple [natD x.1, natD x.2] := by
  unfold enumD
  rw [List.map_map, List.length_map]
  refine List.map_congr_left fun i hi => ?_
  have c := List.mem_range.mp hi
  show PyData.tuple [.int (i : Nat), (ks.map natD).getD i .none] = .tuple [natD i, natD (ks.getD i 0)]
  simp [List.getD_eq_getElem?_getD, c, natD]
end
end Kw

set_option maxRecDepth 100000
set_option maxHeartbeats 1000000
/-! trimmed -/
namespace Kw
open PySem PySem.Spec PyProof.Rows L2 KD Mx
def fwd (mv : List Mx.Move) (p : Nat) : List Nat := (mv.filter fun m => decide (m.1 = p)).map (·.2.2.2)
def bwd (mv : List Mx.Move) (q : Nat) : List Nat := (mv.filter fun m => decide (m.2.2.2 = q)).map (·.1)
theorem fwd_snoc (mv : List Mx.Move) (m : Mx.Move) (p : Nat) : fwd (mv ++ [m]) p = if p = m.1 then fwd mv p ++ [m.2.2.2] else fwd mv p := by
  unfold fwd
  rw [List.filter_append]
  by_cases h : p = m.1
  · rw [if_pos h]; simp [h]
  · rw [if_neg h]; simp [Ne.symm h]
theorem bwd_snoc (mv : List Mx.Move) (m : Mx.Move) (p : Nat) : bwd (mv ++ [m]) p = if p = m.2.2.2 then bwd mv p ++ [m.1] else bwd mv p := by
  unfold bwd
  rw [List.filter_append]
  by_cases h : p = m.2.2.2
  · rw [if_pos h]; simp [h]
  · rw [if_neg h]; simp [Ne.symm h]
theorem fwd_mem {mv : List Mx.Move} {p q : Nat} : q ∈ fwd mv p ↔ ∃ a c, (p, a, c, q) ∈ mv := by
  unfold fwd
  simp only [List.mem_map, List.mem_filter, decide_eq_true_eq]
  constructor
  · rintro ⟨⟨p', a, c, q'⟩, ⟨h, rfl⟩, rfl⟩; exact ⟨a, c, h⟩
  · rintro ⟨a, c, h⟩; exact ⟨_, ⟨h, rfl⟩, rfl⟩
theorem bwd_mem {mv : List Mx.Move} {p q : Nat} : p ∈ bwd mv q ↔ ∃ a c, (p, a, c, q) ∈ mv := by
  unfold bwd
  simp only [List.mem_map, List.mem_filter, decide_eq_true_eq]
  constructor
  · rintro ⟨⟨p', a, c, q'⟩, ⟨h, rfl⟩, rfl⟩; exact ⟨a, c, h⟩
  · rintro ⟨a, c, h⟩; exact ⟨_, ⟨h, rfl⟩, rfl⟩
/-- the states that are kept -/
structure KeptL (M : Mach) (ks : List Nat) : Prop where
  nd : ks.Nodup
  mem : ∀ s, s ∈ ks ↔ s < M.n ∧ Reach (fwd M.mv) M.st s ∧ Reach (bwd M.mv) M.en s
def TrimR (lt : List Str) (M : Mach) (r : PyData) : Prop := ∃ ks, KeptL M ks ∧ ((ks = [] ∧ r = machD lt ⟨1, [], [], []⟩) ∨ (ks ≠ [] ∧ ∃ R, r = machD lt R ∧ Made ks.length (M.st.filterMap (placeO ks)) (M.en.filterMap (placeO ks)) (M.mv.filterMap (placeM ks)) R))
theorem filter_map_if (c : Nat → Bool) : ∀ l : List Nat, (l.filterMap fun s => if c s = true then some (natD s) else none) = (l.filter c).map natD
  | [] => rfl
  | a :: l => by
    rw [List.filterMap_cons, List.filter_cons]
    by_cases h : c a = true
    · rw [if_pos h, if_pos h, List.map_cons, ← filter_map_if c l]
    · rw [if_neg h, if_neg h]; exact filter_map_if c l
theorem seq_asg {te : TE} {u : TS} {D : Ends} {σ : L2.St} {H : Hp} {i : Nat} (h : te σ H fun v H1 => u D (σ.set i (some v)) H1) : tSeq (tAsg te (gName i)) u D σ H := h
section
variable {P : Program} {w : World} {K : PySem.W.Frag} {mg : Str → Option Value} {base : Heap}
def spTrim (K : PySem.W.Frag) : Sp := spX K (α := List Str × Mach) (fun a => [machD a.1 a.2]) (fun a => MOk a.1 a.2 ∧ Lite a.2) (fun a r => TrimR a.1 a.2 r)
theorem evl_places {H : Hp} {σ : L2.St} {wi : TI} {i j : Nat} {l ks : List Nat} {Dn : Addr} (nd : ks.Nodup) (hs : EvI Same K wi σ H (l.map natD)) (hl : l.length ≤ 100000) (eD : H Dn = some (.dK (kvN (numK ks))))
    (hD : ∀ x : V, ((wipe σ [i]).set i (some x))[j]? = some (some (.ref Dn))) (hi : ∀ x : V, ((wipe σ [i]).set i (some x))[i]? = some (some x)) (hw : ∀ x : V, wipe ((wipe σ [i]).set i (some x)) [i] = wipe σ [i] := by intro _; rfl) :
    EvL K (tLc wi (gName i) (tB (tDIn (tVar i) (tVar j))) (tDGet (tVar j) (tVar i)) [i]) σ H ((l.filterMap (placeO ks)).map natD) := by
  refine EvL.is (evl_fmG (K := K) (l := l) (g := natD) (f := fun s => (placeO ks s).map natD) hs hl (fun a _ b _ e => by rw [natD_inj e]) (fun s x H1 _ s1 dx => ?_) hw) ?_
  · cases dx
    have t : EvB (tB (tDIn (tVar i) (tVar j))) ((wipe σ [i]).set i (some (.int (s : Nat)))) H1 (decide (s ∈ ks)) := evb_is (evb_B (evd_din (K := K) (.inl (s1 _ _ eD)) (evr_v j (hD _)) (evd_v i (hi _) (.int _)))) (numK_in nd s)
    by_cases c : s ∈ ks
    · obtain ⟨k, hk⟩ := List.mem_iff_getElem?.mp c
      rw [(placeO_some nd).mpr hk]
      exact ⟨evb_is t (decide_eq_true c), evd_dget (K := K) (.inl (s1 _ _ eD)) (evr_v j (hD _)) (evd_v i (hi _) (.int _)) (numK_at nd hk) (.int _)⟩
    · have : placeO ks s = none := by unfold placeO; rw [if_neg c]
      rw [this]
      exact evb_is t (decide_eq_false c)
  · rw [List.map_filterMap]
theorem ok_trimmed_of (T : Txt K mg) : FnOk P w K mg base CX0 2 T.A_trimmed_of.f T.A_trimmed_of.d ["machine"] (spTrim K) := by
  refine T.A_trimmed_of.F.ok sc_trimmed_of (fun vs H Q E h => ?_) (fun cdv A outer s H vs Q E hr h => ?_)
  · obtain ⟨a, hd, _⟩ := h; exact hd.length
  · obtain ⟨⟨lt, M⟩, hd, ⟨o, f1⟩, q⟩ := h
    refine ⟨_, ((pss_cons (ps_asg (pv 0) (kgTup (K := K) rfl (pgs_cons (pg_name (i := 1) sc_trimmed_of.nd rfl (.inl rfl)) (pgs_cons (pg_name (i := 2) sc_trimmed_of.nd rfl (.inl rfl)) (pgs_cons (pg_name (i := 3) sc_trimmed_of.nd rfl (.inl rfl)) (pgs_cons (pg_name (i := 4) sc_trimmed_of.nd rfl (.inl rfl)) (pgs_cons (pg_name (i := 5) sc_trimmed_of.nd rfl (.inl rfl)) pgs_nil)))))))
  (pss_cons (ps_par (i := 6) (j := 7) (by rfl) sc_trimmed_of.nd rfl rfl (by decide) rfl rfl (pa_cons (pe_lc (own := [("state", 18)]) (g := gName 18) (tt := tYes) rfl sc_trimmed_of.nd (pi_range1 rfl T.n_range (pa_cons (pv 2) pa_nil)) (blkOk_by (own := [("state", 18)]) (N := ["machine", "letters", "states", "starts", "ends", "moves", "ahead", "back", "p", "letter", "cost", "q", "come", "lead", "kept", "numbers", "rows", "first", "state", "number"]) (sc := defScope s_trimmed_of) (by decide +kernel)) (fun _ _ _ _ _ => (pg_name (i := 18) sc_trimmed_of.nd rfl (.inl rfl))) (fun _ _ _ _ _ => pts_nil) (fun _ _ _ _ _ => (pe_lst pa_nil))) (pa_cons (pe_lc (own := [("state", 18)]) (g := gName 18) (tt := tYes) rfl sc_trimmed_of.nd (pi_range1 rfl T.n_range (pa_cons (pv 2) pa_nil)) (blkOk_by (own := [("state", 18)]) (N := ["machine", "letters", "states", "starts", "ends", "moves", "ahead", "back", "p", "letter", "cost", "q", "come", "lead", "kept", "numbers", "rows", "first", "state", "number"]) (sc := defScope s_trimmed_of) (by decide +kernel)) (fun _ _ _ _ _ => (pg_name (i := 18) sc_trimmed_of.nd rfl (.inl rfl))) (fun _ _ _ _ _ => pts_nil) (fun _ _ _ _ _ => (pe_lst pa_nil))) pa_nil)) (by rfl))
  (pss_cons (ps_for PassesOwn.never rfl (kiTup (K := K) (pv 5)) (kgTup (K := K) rfl (pgs_cons (pg_name (i := 8) sc_trimmed_of.nd rfl (.inl rfl)) (pgs_cons (pg_name (i := 9) sc_trimmed_of.nd rfl (.inl rfl)) (pgs_cons (pg_name (i := 10) sc_trimmed_of.nd rfl (.inl rfl)) (pgs_cons (pg_name (i := 11) sc_trimmed_of.nd rfl (.inl rfl)) pgs_nil)))))
    (pss_cons (ps_expr (pe_bm PySem.F.plainAttrs_list PySem.F.slot_list_append PySem.F.type_list_append mt_append (pe_ix (kIxL (K := K)) (pv 6) (pv 8) (fun _ _ => rfl)) (pa_cons (pv 11) pa_nil)))
  (pss_one (ps_expr (pe_bm PySem.F.plainAttrs_list PySem.F.slot_list_append PySem.F.type_list_append mt_append (pe_ix (kIxL (K := K)) (pv 7) (pv 11) (fun _ _ => rfl)) (pa_cons (pv 8) pa_nil))))))
  (pss_cons (ps_asg (pe_tup (pa_cons (pe_call (ok_spread_over T) (hr.mono (by decide)) (by rfl) T.A_spread_over.g T.A_spread_over.F.kp T.A_spread_over.b .nil pass0 (pa_cons (pv 3) (pa_cons (pv 6) pa_nil))) (pa_cons (pe_call (ok_spread_over T) (hr.mono (by decide)) (by rfl) T.A_spread_over.g T.A_spread_over.F.kp T.A_spread_over.b .nil pass0 (pa_cons (pv 4) (pa_cons (pv 7) pa_nil))) pa_nil))) (kgTup (K := K) rfl (pgs_cons (pg_name (i := 12) sc_trimmed_of.nd rfl (.inr rfl)) (pgs_cons (pg_name (i := 13) sc_trimmed_of.nd rfl (.inr rfl)) pgs_nil))))
  (pss_cons (ps_setLc (i := 14) (own := [("state", 18)]) (g := gName 18) rfl sc_trimmed_of.nd rfl rfl (sw_true rfl rfl rfl (by decide +kernel)) (pi_range1 rfl T.n_range (pa_cons (pv 2) pa_nil)) (blkOk_by (own := [("state", 18)]) (N := ["machine", "letters", "states", "starts", "ends", "moves", "ahead", "back", "p", "letter", "cost", "q", "come", "lead", "kept", "numbers", "rows", "first", "state", "number"]) (sc := defScope s_trimmed_of) (by decide +kernel)) (fun _ _ _ _ _ => (pg_name (i := 18) sc_trimmed_of.nd rfl (.inl rfl))) (fun _ _ _ _ _ => pts_one (PW.pt (pw_and (pt_cmp (pc_din (hu_of hr) (pv 18) (pv 12))) (pw_and1 (pt_cmp (pc_din (hu_of hr) (pv 18) (pv 13))))))) (fun _ _ _ _ _ => (pv 18)))
  (pss_cons (ps_if (pt_cmpR (kEqD (K := K) (hu64 hr)) (pv 14) (pe_lst pa_nil) (nomark _)) (pss_one (ps_ret (pe_tup (pa_cons (pv 1) (pa_cons pe_int (pa_cons (pe_tup pa_nil) (pa_cons (pe_tup pa_nil) (pa_cons (pe_tup pa_nil) pa_nil)))))))) pss_nil)
  (pss_cons (ps_set (i := 15) sc_trimmed_of.nd rfl (.inr rfl) (pe_dc (own := [("number", 19), ("state", 18)]) (g := gTup K 2 (gCons (gName 19) (gCons (gName 18) (gNil)))) (tt := tYes) rfl sc_trimmed_of.nd (kiEnum (K := K) (by rfl) T.n_enumerate (pa_cons (pv 14) pa_nil)) (blkOk_by (own := [("number", 19), ("state", 18)]) (N := ["machine", "letters", "states", "starts", "ends", "moves", "ahead", "back", "p", "letter", "cost", "q", "come", "lead", "kept", "numbers", "rows", "first", "state", "number"]) (sc := defScope s_trimmed_of) (by decide +kernel)) (fun _ _ _ _ _ => (kgTup (K := K) rfl (pgs_cons (pg_name (i := 19) sc_trimmed_of.nd rfl (.inl rfl)) (pgs_cons (pg_name (i := 18) sc_trimmed_of.nd rfl (.inl rfl)) pgs_nil)))) (fun _ _ _ _ _ => pts_nil) (fun _ _ _ _ _ => (pv 18)) (fun _ _ _ _ _ => (pv 19))))
  (pss_cons (ps_setLc (i := 16) (own := [("p", 8), ("letter", 9), ("cost", 10), ("q", 11)]) (g := gTup K 4 (gCons (gName 8) (gCons (gName 9) (gCons (gName 10) (gCons (gName 11) (gNil)))))) rfl sc_trimmed_of.nd rfl rfl (sw_true rfl rfl rfl (by decide +kernel)) (kiTup (K := K) (pv 5)) (blkOk_by (own := [("p", 8), ("letter", 9), ("cost", 10), ("q", 11)]) (N := ["machine", "letters", "states", "starts", "ends", "moves", "ahead", "back", "p", "letter", "cost", "q", "come", "lead", "kept", "numbers", "rows", "first", "state", "number"]) (sc := defScope s_trimmed_of) (by decide +kernel)) (fun _ _ _ _ _ => (kgTup (K := K) rfl (pgs_cons (pg_name (i := 8) sc_trimmed_of.nd rfl (.inl rfl)) (pgs_cons (pg_name (i := 9) sc_trimmed_of.nd rfl (.inl rfl)) (pgs_cons (pg_name (i := 10) sc_trimmed_of.nd rfl (.inl rfl)) (pgs_cons (pg_name (i := 11) sc_trimmed_of.nd rfl (.inl rfl)) pgs_nil)))))) (fun _ _ _ _ _ => pts_one (PW.pt (pw_and (pt_cmp (pc_din (hu_of hr) (pv 8) (pv 15))) (pw_and1 (pt_cmp (pc_din (hu_of hr) (pv 11) (pv 15))))))) (fun _ _ _ _ _ => (pe_tup (pa_cons (pe_dget (hu_of hr) (pv 15) (pv 8) (fun _ _ => rfl)) (pa_cons (pv 9) (pa_cons (pv 10) (pa_cons (pe_dget (hu_of hr) (pv 15) (pv 11) (fun _ _ => rfl)) pa_nil)))))))
  (pss_cons (ps_setLc (i := 17) (own := [("state", 18)]) (g := gName 18) rfl sc_trimmed_of.nd rfl rfl (sw_true rfl rfl rfl (by decide +kernel)) (kiTup (K := K) (pv 3)) (blkOk_by (own := [("state", 18)]) (N := ["machine", "letters", "states", "starts", "ends", "moves", "ahead", "back", "p", "letter", "cost", "q", "come", "lead", "kept", "numbers", "rows", "first", "state", "number"]) (sc := defScope s_trimmed_of) (by decide +kernel)) (fun _ _ _ _ _ => (pg_name (i := 18) sc_trimmed_of.nd rfl (.inl rfl))) (fun _ _ _ _ _ => pts_one (pt_cmp (pc_din (hu_of hr) (pv 18) (pv 15)))) (fun _ _ _ _ _ => (pe_dget (hu_of hr) (pv 15) (pv 18) (fun _ _ => rfl))))
  (pss_one (ps_ret (pe_call (ok_made_machine T) (hr.mono (by decide)) (by rfl) T.A_made_machine.g T.A_made_machine.F.kp T.A_made_machine.b .nil pass0 (pa_cons (pv 1) (pa_cons (pe_callB (kLen (K := K)) (by rfl) T.n_len (by decide +kernel) (pa_cons (pv 14) pa_nil)) (pa_cons (pv 17) (pa_cons (pe_lc (own := [("state", 18)]) (g := gName 18) rfl sc_trimmed_of.nd (kiTup (K := K) (pv 4)) (blkOk_by (own := [("state", 18)]) (N := ["machine", "letters", "states", "starts", "ends", "moves", "ahead", "back", "p", "letter", "cost", "q", "come", "lead", "kept", "numbers", "rows", "first", "state", "number"]) (sc := defScope s_trimmed_of) (by decide +kernel)) (fun _ _ _ _ _ => (pg_name (i := 18) sc_trimmed_of.nd rfl (.inl rfl))) (fun _ _ _ _ _ => pts_one (pt_cmp (pc_din (hu_of hr) (pv 18) (pv 15)))) (fun _ _ _ _ _ => (pe_dget (hu_of hr) (pv 15) (pv 18) (fun _ _ => rfl)))) (pa_cons (pv 16) pa_nil)))))))))))))))))), ?_⟩
    obtain ⟨x0, rfl, h0⟩ := hd.single
    have h0' := h0
    rw [machD_eq] at h0'
    obtain ⟨a1, a2, a3⟩ := f1
    simp only at a1 a2 a3 o h0'
    have n12 := o.n12
    refine evq_tup5 (evd_v 0 rfl h0') fun y1 y2 y3 y4 y5 H1 s1 d1 d2 d3 d4 d5 => ?_
    cases d2
    have mk : ∀ {σ : L2.St} {H : Hp}, σ[2]? = some (some (.int (M.n : Nat))) → (∀ x : V, wipe ((wipe σ [18]).set 18 (some x)) [18] = wipe σ [18]) → EvN (LN (fun q => IN (zs ((fun _ => []) q))) M.n) (tLc (iRng1 (tCons (tVar 2) tNil)) (gName 18) tYes (tLst tNil) [18]) σ H := fun {σ H} h2 hw => by
      have := evn_lc (K := K) (te := tLst tNil) (i := 18) (σ := σ) (H := H) (N := fun _ => IN (zs [])) (fun _ => stay_IN _) (fun _ => there_IN _) (evi_range1 (n := M.n) (evd_v 2 h2 (.int _)) (by omega)).same (by simp [nats]; omega) (fun j d x H3 hj s3 dx => EvL.own (evl_lst (eva_nil (K := K)) (by decide))) hw
      rwa [show (nats M.n).length = M.n by simp [nats]] at this
    refine evq_parN (K := K) (stay_LN (fun _ => stay_IN _) _) (there_LN (fun _ => there_IN _) _) (mk rfl fun x => rfl) (mk rfl fun x => rfl) fun pa own pb own' H2 s2 n1 n2 fr1 nd1 fr2 nd2 => ?_
    obtain ⟨BA, NA, apA, mA, mBA⟩ := nxt_of (f := fun _ => []) n1 fr1 nd1
    obtain ⟨BB, NB, apB, mB, mBB⟩ := nxt_of (f := fun _ => []) n2 (fun x hx => (fr2 x hx).1) nd2
    have dis : ∀ {x y : Addr}, x ∈ own → y ∈ own' → x ≠ y := fun hx hy e => (fr2 _ hy).2 (e ▸ hx)
    refine evq_forG (K := K) (ds := M.mv.map mvD) (evi_tup (evd_v 5 rfl (d5.mono s2))) (fun Hb i σ' H' => ∃ s8 s9 s10 s11 : Option V, σ' = [some x0, some y1, some (.int (M.n : Nat)), some y3, some y4, some y5, some (.ref pa), some (.ref pb), s8, s9, s10, s11, none, none, none, none, none, none, none, none] ∧ Same H1 H' ∧ Kp Hb H' ∧ Nxt H' pa (fwd (M.mv.take i)) M.n BA ∧ Nxt H' pb (bwd (M.mv.take i)) M.n BB)
      (fun Hb i σ' H' _ _ pv => ?_) (fun H3 s3 => ⟨_, _, _, _, rfl, s2.trans s3, .refl _, NA.same s3, NB.same s3⟩) (fun H3 i d σ' H' x H'' s3 hd pv s4 dx => ?_) (fun H3 σ' H' s3 pv => ?_)
    · obtain ⟨_, _, _, _, _, _, kp, _⟩ := pv
      exact kp
    · obtain ⟨s8, s9, s10, s11, rfl, sH, kp, NA', NB'⟩ := pv
      obtain ⟨m, hm, rfl⟩ : ∃ m, M.mv[i]? = some m ∧ d = mvD m := by
        rw [List.getElem?_map] at hd
        cases e : M.mv[i]? with
        | none => rw [e] at hd; cases hd
        | some m => rw [e] at hd; exact ⟨m, rfl, (Option.some.inj hd).symm⟩
      obtain ⟨l1, _, _, l2⟩ := o.ok.mv m.1 m.2.1 m.2.2.1 m.2.2.2 (List.mem_of_getElem? hm)
      refine gtup4_m dx ?_
      have NA2 := NA'.same s4
      have NB2 := NB'.same s4
      have sH2 := sH.trans s4
      have lf : ∀ p, (natsV (fwd (M.mv.take i) p)).length ≤ 100000 := fun p => by
        unfold natsV fwd
        rw [List.length_map, List.length_map]
        have := List.length_filter_le (fun m : Mx.Move => decide (m.1 = p)) (M.mv.take i)
        rw [List.length_take] at this
        omega
      have lb : ∀ p, (natsV (bwd (M.mv.take i) p)).length ≤ 100000 := fun p => by
        unfold natsV bwd
        rw [List.length_map, List.length_map]
        have := List.length_filter_le (fun m : Mx.Move => decide (m.2.2.2 = p)) (M.mv.take i)
        rw [List.length_take] at this
        omega
      have eA := NA2.row m.1 l1
      have neAB : BA m.1 ≠ BB m.2.2.2 := dis (mBA _ l1) (mBB _ l2)
      have NA3 := NA2.push (t := m.2.2.2) (f' := fwd (M.mv.take (i + 1))) apA l1 fun q' _ => by rw [take_next hm, fwd_snoc]
      have NB3 : Nxt (upd H'' (BA m.1) (.lst (natsV (fwd (M.mv.take i) m.1) ++ [.int (m.2.2.2 : Nat)]))) pb (bwd (M.mv.take i)) M.n BB := NB2.other (dis (mBA _ l1) mB) fun q hq => dis (mBA _ l1) (mBB _ hq)
      refine evq_appV (K := K) (p := BA m.1) (v := .int (m.2.2.2 : Nat)) eA (lf _) (fun Qx qx => ⟨_, rfl, _, rfl, pa, _, _, _, rfl, rfl, .inl (.inl NA2.top), atI_nat (range_at l1), qx⟩) (at_v 11 rfl) ?_
      have eB := NB3.row m.2.2.2 l2
      refine evs_appV (K := K) (p := BB m.2.2.2) (v := .int (m.1 : Nat)) eB (lb _) (fun Qx qx => ⟨_, rfl, _, rfl, pb, _, _, _, rfl, rfl, .inl (.inl NB3.top), atI_nat (range_at l2), qx⟩) (at_v 8 rfl) ?_
      refine ⟨_, _, _, _, rfl, same_mut (same_mut sH2 (apA.b _ l1)) (apB.b _ l2), ((kp.trans (.of s4)).trans (.updL eA)).trans (.updL eB), NA3.other (Ne.symm (dis mA (mBB _ l2))) fun q hq => Ne.symm (dis (mBA _ hq) (mBB _ l2)), NB3.push apB l2 fun q' _ => by rw [take_next hm, bwd_snoc]⟩
    · obtain ⟨s8, s9, s10, s11, rfl, sH, kp, NA', NB'⟩ := pv
      rw [List.length_map, List.take_length] at NA' NB'
      refine seq_tup ?_
      have fo1 : ∀ q, q < M.n → (fwd M.mv q).length ≤ 62 ∧ ∀ t ∈ fwd M.mv q, t < M.n := fun q _ => by
        refine ⟨?_, fun t ht => ?_⟩
        · unfold fwd
          rw [List.length_map]
          have := List.length_filter_le (fun m : Mx.Move => decide (m.1 = q)) M.mv
          omega
        · obtain ⟨a, c, hm⟩ := fwd_mem.mp ht
          exact (o.ok.mv _ _ _ _ hm).2.2.2
      have fo2 : ∀ q, q < M.n → (bwd M.mv q).length ≤ 62 ∧ ∀ t ∈ bwd M.mv q, t < M.n := fun q _ => by
        refine ⟨?_, fun t ht => ?_⟩
        · unfold bwd
          rw [List.length_map]
          have := List.length_filter_le (fun m : Mx.Move => decide (m.2.2.2 = q)) M.mv
          omega
        · obtain ⟨a, c, hm⟩ := bwd_mem.mp ht
          exact (o.ok.mv _ _ _ _ hm).1
      refine ⟨_, rfl, _, rfl, y3, pa, M.st, fwd M.mv, M.n, BA, rfl, d3.mono sH, NA', n12, by omega, zs_nodup o.st, o.ok.st, fo1, fun Dc kvc Hc hDc sc eDc memc => ?_⟩
      refine ⟨_, rfl, _, rfl, y4, pb, M.en, bwd M.mv, M.n, BB, rfl, d4.mono (sH.trans sc), NB'.same sc, n12, by omega, zs_nodup o.en, o.ok.en, fo2, fun Dl kvl Hl hDl sl eDl meml => ⟨by rw [sizeLine_eq]; simp, fun pp hpp => ?_⟩⟩
      have sp := same_new (o := .tup [.ref Dc, .ref Dl]) hpp
      refine ⟨pp, [.ref Dc, .ref Dl], rfl, .inl (.inl upd_same), rfl, _, _, rfl, _, _, rfl, rfl, ?_⟩
      have s5 := ((sH.trans sc).trans sl).trans sp
      have eDc5 := sp _ _ (sl _ _ eDc)
      have eDl5 := sp _ _ eDl
      generalize (upd Hl pp (.tup [.ref Dc, .ref Dl])) = H5 at s5 eDc5 eDl5
      refine evq_setL (K := K) (ds := ((List.range M.n).filter fun s => (fnd kvc s).isSome && (fnd kvl s).isSome).map natD) (EvL.is (evl_fmG (K := K) (l := List.range M.n) (g := natD) (f := fun s => if ((fnd kvc s).isSome && (fnd kvl s).isSome) = true then some (natD s) else none) (evi_range1 (evd_v 2 rfl (.int _)) (by omega)).same (by simp; omega) (fun a _ b _ e => by rw [natD_inj e]) fun s x H6 _ s6 dx => ?_) (filter_map_if _ _)) fun pk xk H6 _ s6 e6 d6 => ?_
      · cases dx
        have t := evb_and (evb_B (evd_din (K := K) (s := s) (td := tVar 12) (ty := tVar 18) (σ := ((wipe ([some x0, some y1, some (.int (M.n : Nat)), some y3, some y4, some y5, some (.ref pa), some (.ref pb), s8, s9, s10, s11, some (.ref Dc), some (.ref Dl), none, none, none, none, none, none] : L2.St) [18]).set 18 (some (.int (s : Nat))))) (.inl (s6 _ _ eDc5)) (evr_v 12 rfl) (evd_v 18 rfl (.int _)))) fun _ => evb_B (evd_din (K := K) (s := s) (td := tVar 13) (ty := tVar 18) (.inl (s6 _ _ eDl5)) (evr_v 13 rfl) (evd_v 18 rfl (.int _)))
        by_cases c : ((fnd kvc s).isSome && (fnd kvl s).isSome) = true
        · rw [if_pos c]
          exact ⟨evb_is t c, evd_v 18 rfl (.int _)⟩
        · rw [if_neg c]
          exact evb_is t (by simpa using c)
      have KL : KeptL M ((List.range M.n).filter fun s => (fnd kvc s).isSome && (fnd kvl s).isSome) := ⟨List.nodup_range.filter _, fun s => by rw [List.mem_filter, List.mem_range, Bool.and_eq_true, memc, meml]⟩
      have kl12 : ((List.range M.n).filter fun s => (fnd kvc s).isSome && (fnd kvl s).isSome).length ≤ 12 := by
        have := List.length_filter_le (fun s => (fnd kvc s).isSome && (fnd kvl s).isSome) (List.range M.n)
        rw [List.length_range] at this
        omega
      generalize ((List.range M.n).filter fun s => (fnd kvc s).isSome && (fnd kvl s).isSome) = ks at d6 KL kl12
      have s16 := s5.trans s6
      have exk : xk = natsV ks := by
        have := DqAll.of_ints (zs ks) (by rw [zs_map]; exact d6)
        rw [this, natsV_zs]
      subst exk
      refine evq_ifn (b := decide (ks = [])) (evb_is (evb_test (evd_eqNil (K := K) (n := 0) (.inl (.inl e6)) d6 (fun d hd => ?_) (by decide) (evr_v 14 rfl))) (by rw [decide_eq_decide, List.map_eq_nil_iff])) (fun hb H7 s7 => ?_) fun hb H7 s7 => ?_
      · obtain ⟨a, _, rfl⟩ := List.mem_map.mp hd
        exact good_int _
      · refine evs_retD (K := K) (d := machD lt ⟨1, [], [], []⟩) (evd_is (evd_tup (eva_cons (evd_v 1 rfl ((d1.mono s16).mono s7)) (eva_cons evd_int (eva_cons (evd_tup eva_nil (by simp)) (eva_cons (evd_tup eva_nil (by simp)) (eva_cons (evd_tup eva_nil (by simp)) eva_nil))))) (by simp)) (by rw [machD_eq]; rfl)) fun v H8 s8 p8 => q v H8 _ (((s1.trans s16).trans s7).trans s8) p8 ⟨ks, KL, .inl ⟨of_decide_eq_true hb, rfl⟩⟩
      · have hne : ks ≠ [] := of_decide_eq_false hb
        have s17 := s16.trans s7
        have e7 := s7 _ _ e6
        refine seq_asg ?_
        refine dc_nats (K := K) (l := (List.range ks.length).map fun i => (i, ks.getD i 0)) (gd := fun x => .tuple [natD x.1, natD x.2]) (f := fun x => (x.2, .int (x.1 : Nat))) (by rw [← enumD_nats]; exact evi_enumS (.inl (.inl e7)) (dq_nats ks) (evr_v 14 rfl)) (by simp; omega) (fun a y H8 ha s8' dy R R' r => ?_) fun Dn H8 hDn s8' eDn => ?_
        · refine gtup2_d dy fun u v du dv => ?_
          cases du; cases dv
          exact ⟨rfl, _, rfl, _, rfl, r H8 (Same.refl _)⟩
        have eDn' : H8 Dn = some (.dK (kvN (numK ks))) := eDn
        have s18 := s17.trans s8'
        refine evq_setL (K := K) (ds := ((M.mv.filterMap (placeM ks)).map moveL).map tupI) (EvL.is (evl_moves (K := K) (L := M.mv) (f := fun m => (placeM ks m).map mvD) (evi_tup (evd_v 5 rfl (d5.mono s18))).same (by omega) fun m H9 hm s9' => ?_) (by rw [mv_map, List.map_filterMap])) fun p16 x16 H9 _ s9' e9 d9 => ?_
        · have eD9 := s9' _ _ eDn'
          have t := evb_and (evb_B (evd_din (K := K) (s := m.1) (td := tVar 15) (ty := tVar 8) (σ := (((((wipe ([some x0, some y1, some (.int (M.n : Nat)), some y3, some y4, some y5, some (.ref pa), some (.ref pb), s8, s9, s10, s11, some (.ref Dc), some (.ref Dl), some (.ref pk), some (.ref Dn), none, none, none, none] : L2.St) [8, 9, 10, 11]).set 8 (some (.int (m.1 : Nat)))).set 9 (some (.int (m.2.1 : Nat)))).set 10 (some (.int m.2.2.1))).set 11 (some (.int (m.2.2.2 : Nat))))) (.inl eD9) (evr_v 15 rfl) (evd_v 8 rfl (.int _)))) fun _ => evb_B (evd_din (K := K) (s := m.2.2.2) (td := tVar 15) (ty := tVar 11) (.inl eD9) (evr_v 15 rfl) (evd_v 11 rfl (.int _)))
          rw [numK_in KL.nd, numK_in KL.nd] at t
          by_cases c1 : m.1 ∈ ks
          · by_cases c2 : m.2.2.2 ∈ ks
            · obtain ⟨i1, hi1⟩ := List.mem_iff_getElem?.mp c1
              obtain ⟨i2, hi2⟩ := List.mem_iff_getElem?.mp c2
              have e : placeM ks m = some (i1, m.2.1, m.2.2.1, i2) := by unfold placeM; rw [(placeO_some KL.nd).mpr hi1, (placeO_some KL.nd).mpr hi2]
              rw [e]
              exact ⟨evb_is t (by simp [c1, c2]), evd_tup (eva_cons (evd_dget (K := K) (.inl eD9) (evr_v 15 rfl) (evd_v 8 rfl (.int _)) (numK_at KL.nd hi1) (.int _)) (eva_cons (evd_v 9 rfl (.int _)) (eva_cons (evd_v 10 rfl (.int _)) (eva_cons (evd_dget (K := K) (.inl eD9) (evr_v 15 rfl) (evd_v 11 rfl (.int _)) (numK_at KL.nd hi2) (.int _)) eva_nil)))) (by simp [moveL])⟩
            · have e : placeM ks m = none := by
                have : placeO ks m.2.2.2 = none := by unfold placeO; rw [if_neg c2]
                unfold placeM; rw [this]; split <;> simp_all
              rw [e]
              exact evb_is t (by simp [c2])
          · have e : placeM ks m = none := by
              have : placeO ks m.1 = none := by unfold placeO; rw [if_neg c1]
              unfold placeM; rw [this]
            rw [e]
            exact evb_is t (by simp [c1])
        have s19 := s18.trans s9'
        have eD9 := s9' _ _ eDn'
        refine evq_setL (K := K) (ds := (zs (M.st.filterMap (placeO ks))).map .int) (EvL.is (evl_places (K := K) (j := 15) KL.nd (evi_tup (evd_v 3 rfl (d3.mono s19))).same (by omega) eD9 (fun x => rfl) (fun x => rfl)) (zs_map _).symm) fun p17 x17 H10 _ s10' e10 d10 => ?_
        have s110 := s19.trans s10'
        have b1 := List.length_filterMap_le (placeO ks) M.st
        have b2 := List.length_filterMap_le (placeO ks) M.en
        have b3 := List.length_filterMap_le (placeM ks) M.mv
        refine evs_ret (evp_made (K := K) (n := ks.length) (l1 := M.st.filterMap (placeO ks)) (l2 := M.en.filterMap (placeO ks)) (mv := M.mv.filterMap (placeM ks)) (evd_v 1 rfl (d1.mono s110)) (evd_is (evd_lenLs (.inl (.inl (s10' _ _ (s9' _ _ (s8' _ _ e7))))) (evr_v 14 rfl)) (by unfold natsV; rw [List.length_map]))
          (EvLs.S (evls_v e10 d10 (evr_v 17 rfl))) (EvL.S (EvL.is (evl_places (K := K) (j := 15) KL.nd (evi_tup (evd_v 4 rfl (d4.mono s110))).same (by omega) (s10' _ _ eD9) (fun x => rfl) (fun x => rfl)) (zs_map _).symm)) (EvLs.M (evls_v (s10' _ _ e9) (d9.mono s10') (evr_v 16 rfl))) (by omega) (by omega) (by omega)) fun v H11 r s11' p11 e11 => q v H11 r ((s1.trans s110).trans s11') p11 ⟨ks, KL, .inr ⟨hne, e11⟩⟩
theorem ok_trimmed (T : Txt K mg) : FnOk P w K mg base CX0 7 T.A_trimmed.f T.A_trimmed.d ["machine"] (spTrim K) := by
  refine T.A_trimmed.F.ok sc_trimmed (fun vs H Q E h => ?_) (fun cdv A outer s H vs Q E hr h => ?_)
  · obtain ⟨a, hd, _⟩ := h; exact hd.length
  · obtain ⟨⟨lt, M⟩, hd, ⟨o, f1⟩, q⟩ := h
    refine ⟨_, ((pss_cons (ps_expr (pe_call (ok_need_machine T) (hr.mono (by decide)) (by rfl) T.A_need_machine.g T.A_need_machine.F.kp T.A_need_machine.b .nil pass0 (pa_cons (pv 0) pa_nil)))
  (pss_one (ps_ret (pe_call (ok_trimmed_of T) (hr.mono (by decide)) (by rfl) T.A_trimmed_of.g T.A_trimmed_of.F.kp T.A_trimmed_of.b .nil pass0 (pa_cons (pv 0) pa_nil)))))), ?_⟩
    obtain ⟨x0, rfl, h0⟩ := hd.single
    refine evq_drop (evp_call (eva_cons (evd_v 0 rfl h0) eva_nil) ⟨lt, M, rfl, o⟩) fun H1 r s1 _ => ?_
    exact evs_ret (evx_call (lt, M) (eva_cons (evd_v 0 rfl (h0.mono s1)) eva_nil) ⟨o, f1⟩) fun v H2 r s2 p2 e2 => q v H2 r (s1.trans s2) p2 e2
end
end Kw

set_option maxRecDepth 100000
set_option maxHeartbeats 1000000
/-! What is made lies below what it was made of. -/
namespace Kw
open PySem PySem.Spec PyProof.Rows L2 KD Mx
structure Small (lt : List Str) (M : Mach) : Prop where
  ok : MOk lt M
  n2 : M.n ≤ 2
  lite : Lite M
  per : Per M
section
variable {lt : List Str} {M N R : Mach} {L : Lang}
theorem mvok (o : MOk lt M) {x : Mx.Move} (h : x ∈ M.mv) : MvOk lt.length M.n x := o.ok.mv x.1 x.2.1 x.2.2.1 x.2.2.2 h
theorem Made.okS {n : Nat} {l1 l2 : List Nat} {mv : List Mx.Move} (m : Made n l1 l2 mv R) (b1 : l1.length ≤ 4) (b2 : l2.length ≤ 4) (b3 : mv.length ≤ 8) : Lite R :=
  ⟨Nat.le_trans (nodup_len (zs_nodup m.st') fun p hp => (m.st p).mp hp) b1, Nat.le_trans (nodup_len (zs_nodup m.en') fun p hp => (m.en p).mp hp) b2, Nat.le_trans (nodup_len (mv_nodup m.mv') fun p hp => (m.mv p).mp hp) b3⟩
theorem cheaper_ok (a : Small lt M) (b : Small lt N) (m : Made (M.n + N.n) (M.st ++ N.st.map (· + M.n)) (M.en ++ N.en.map (· + M.n)) (M.mv ++ N.mv.map (shift M.n)) R) : MOk lt R ∧ Sim id R M ∧ Sim (· + M.n) R N := by
  obtain ⟨oa, na, ⟨a1, a2, a3⟩, _⟩ := a
  obtain ⟨ob, nb, ⟨b1, b2, b3⟩, _⟩ := b
  have n1 := oa.ok.n1
  refine ⟨m.ok oa.lets (by omega) (by omega) (fun p hp => ?_) (fun p hp => ?_) (fun x hx => ?_) (by simp; omega) (by simp; omega) (by simp; omega), ⟨fun t ht => by rw [m.n]; simp only [id]; omega, fun t ht => (m.st _).mpr (List.mem_append_left _ ht), fun t ht => (m.en _).mpr (List.mem_append_left _ ht), fun t a c u h => ⟨c, (m.mv _).mpr (List.mem_append_left _ h), Int.le_refl _⟩⟩,
    ⟨fun t ht => by rw [m.n]; omega, fun t ht => (m.st _).mpr (List.mem_append_right _ (List.mem_map.mpr ⟨t, ht, rfl⟩)), fun t ht => (m.en _).mpr (List.mem_append_right _ (List.mem_map.mpr ⟨t, ht, rfl⟩)), fun t a c u h => ⟨c, (m.mv _).mpr (List.mem_append_right _ (List.mem_map.mpr ⟨_, h, rfl⟩)), Int.le_refl _⟩⟩⟩
  · rcases List.mem_append.mp hp with h | h
    · have := oa.ok.st p h; omega
    · obtain ⟨t, ht, rfl⟩ := List.mem_map.mp h
      have := ob.ok.st t ht; omega
  · rcases List.mem_append.mp hp with h | h
    · have := oa.ok.en p h; omega
    · obtain ⟨t, ht, rfl⟩ := List.mem_map.mp h
      have := ob.ok.en t ht; omega
  · rcases List.mem_append.mp hx with h | h
    · obtain ⟨h1, h2, h3, h4⟩ := mvok oa h
      exact ⟨by omega, h2, h3, by omega⟩
    · obtain ⟨t, ht, rfl⟩ := List.mem_map.mp h
      obtain ⟨h1, h2, h3, h4⟩ := mvok ob ht
      exact ⟨by show t.1 + M.n < _; omega, h2, h3, by show t.2.2.2 + M.n < _; omega⟩
theorem one_zero {l : List Nat} (nd : l.Nodup) (h : ∀ p, p ∈ l ↔ p ∈ [0]) : l = [0] := by
  match l, nd, h with
  | [], _, h => have := (h 0).mpr (by simp); simp at this
  | [a], _, h =>
    have := (h a).mp (by simp)
    simp at this
    rw [this]
  | a :: b :: l, nd, h =>
    have h1 := (h a).mp (by simp)
    have h2 := (h b).mp (by simp)
    simp at h1 h2
    subst h1 h2
    simp at nd
theorem mem_two {l : List Nat} {p x : Nat} : x ∈ twoOf l p ↔ x = p + 1 ∨ (p ∈ l ∧ x = 0) := by
  unfold twoOf
  by_cases h : p ∈ l
  · rw [if_pos h]; simp [h]
  · rw [if_neg h]; simp [h]
theorem mem_rep {m x : Mx.Move} : x ∈ repM M m ↔ ∃ s ∈ twoOf M.st m.1, ∃ g ∈ twoOf M.en m.2.2.2, x = (s, m.2.1, m.2.2.1, g) := by
  unfold repM
  simp only [List.mem_flatMap, List.mem_map]
  constructor
  · rintro ⟨s, hs, g, hg, rfl⟩; exact ⟨s, hs, g, hg, rfl⟩
  · rintro ⟨s, hs, g, hg, rfl⟩; exact ⟨s, hs, g, hg, rfl⟩
theorem repeated_ok (a : Small lt M) (m : Made (M.n + 1) [0] [0] (M.mv.flatMap (repM M)) R) : MOk lt R ∧ Rep R M := by
  obtain ⟨oa, na, ⟨a1, a2, a3⟩, _⟩ := a
  have rl := rep_len M M.mv
  refine ⟨m.ok oa.lets (by omega) (by omega) (fun p hp => by simp at hp; omega) (fun p hp => by simp at hp; omega) (fun x hx => ?_) (by simp) (by simp) (by omega), ⟨m.n, one_zero (zs_nodup m.st') m.st, one_zero (zs_nodup m.en') m.en, fun p a c q h => ?_⟩⟩
  · obtain ⟨y, hy, hx⟩ := List.mem_flatMap.mp hx
    obtain ⟨s, hs, g, hg, rfl⟩ := mem_rep.mp hx
    obtain ⟨h1, h2, h3, h4⟩ := mvok oa hy
    rw [mem_two] at hs hg
    exact ⟨by show s < _; omega, h2, h3, by show g < _; omega⟩
  · have mk : ∀ s g, s ∈ twoOf M.st p → g ∈ twoOf M.en q → (s, a, c, g) ∈ R.mv := fun s g hs hg => (m.mv _).mpr (List.mem_flatMap.mpr ⟨_, h, mem_rep.mpr ⟨s, hs, g, hg, rfl⟩⟩)
    exact ⟨mk _ _ (mem_two.mpr (.inl rfl)) (mem_two.mpr (.inl rfl)), fun z => mk _ _ (mem_two.mpr (.inr ⟨z, rfl⟩)) (mem_two.mpr (.inl rfl)), fun z => mk _ _ (mem_two.mpr (.inl rfl)) (mem_two.mpr (.inr ⟨z, rfl⟩)), fun z z' => mk _ _ (mem_two.mpr (.inr ⟨z, rfl⟩)) (mem_two.mpr (.inr ⟨z', rfl⟩))⟩
theorem div_add {p k q : Nat} (h : q < k) : (p * k + q) / k = p := by
  rw [Nat.mul_comm, Nat.mul_add_div (by omega), Nat.div_eq_of_lt h, Nat.add_zero]
theorem mod_add {p k q : Nat} (h : q < k) : (p * k + q) % k = q := by
  rw [Nat.mul_comm, Nat.mul_add_mod, Nat.mod_eq_of_lt h]
theorem lt_prod {p n k q : Nat} (h : p < n) (hq : q < k) : p * k + q < n * k := by
  have : (p + 1) * k ≤ n * k := Nat.mul_le_mul_right k h
  rw [Nat.add_mul, Nat.one_mul] at this
  omega
theorem mem_prod {l l' : List Nat} {k x : Nat} : x ∈ prodL l l' k ↔ ∃ p ∈ l, ∃ q ∈ l', x = p * k + q := by
  unfold prodL
  simp only [List.mem_flatMap, List.mem_map]
  constructor
  · rintro ⟨p, hp, q, hq, rfl⟩; exact ⟨p, hp, q, hq, rfl⟩
  · rintro ⟨p, hp, q, hq, rfl⟩; exact ⟨p, hp, q, hq, rfl⟩
theorem restricted_ok (a : Small lt M) (lg : LgOk lt L) (m : Made (M.n * L.rows.length) (M.st.map (· * L.rows.length)) (prodL M.en L.en L.rows.length) (M.mv.flatMap (resM L)) R) : MOk lt R ∧ Sim (· / L.rows.length) M R := by
  obtain ⟨oa, na, ⟨a1, a2, a3⟩, _⟩ := a
  have r1 := lg.r1
  have r2 := lg.r2
  have n1 := oa.ok.n1
  have rl : (M.mv.flatMap (resM L)).length ≤ M.mv.length * 2 := flat_len fun a _ => by rw [resM_len]; exact r2
  have el : (prodL M.en L.en L.rows.length).length ≤ M.en.length * 2 := prodL_len lg.few
  have nn : M.n * L.rows.length ≤ 4 := Nat.le_trans (Nat.mul_le_mul na r2) (by omega)
  have n0 : 1 ≤ M.n * L.rows.length := Nat.mul_pos n1 r1
  have key : ∀ x ∈ M.mv.flatMap (resM L), ∃ y ∈ M.mv, ∃ q t, q < L.rows.length ∧ t < L.rows.length ∧ x = (y.1 * L.rows.length + q, y.2.1, y.2.2.1, y.2.2.2 * L.rows.length + t) := fun x hx => by
    obtain ⟨y, hy, hx⟩ := List.mem_flatMap.mp hx
    unfold resM at hx
    obtain ⟨q, hq, rfl⟩ := List.mem_map.mp hx
    have hq := List.mem_range.mp hq
    have hr := List.getElem?_eq_getElem hq
    obtain ⟨_, h2, _⟩ := mvok oa hy
    have hg := rows_get lg hr h2
    exact ⟨y, hy, q, _, hq, (lg.row _ (List.getElem_mem hq)).2 _ (List.mem_of_getElem? hg), rfl⟩
  refine ⟨m.ok oa.lets n0 (by omega) (fun p hp => ?_) (fun p hp => ?_) (fun x hx => ?_) (by simp; omega) (by omega) (by omega), ⟨fun t ht => ?_, fun t ht => ?_, fun t ht => ?_, fun t a c u h => ?_⟩⟩
  · obtain ⟨t, ht, rfl⟩ := List.mem_map.mp hp
    have := lt_prod (oa.ok.st t ht) (show 0 < L.rows.length by omega)
    simpa using this
  · obtain ⟨t, ht, u, hu, rfl⟩ := mem_prod.mp hp
    exact lt_prod (oa.ok.en t ht) (lg.en u hu)
  · obtain ⟨y, hy, q, t, hq, ht, rfl⟩ := key x hx
    obtain ⟨h1, h2, h3, h4⟩ := mvok oa hy
    exact ⟨lt_prod h1 hq, h2, h3, lt_prod h4 ht⟩
  · rw [m.n] at ht
    exact (Nat.div_lt_iff_lt_mul (by omega)).mpr ht
  · obtain ⟨s, hs, rfl⟩ := List.mem_map.mp ((m.st t).mp ht)
    show s * L.rows.length / L.rows.length ∈ M.st
    rw [Nat.mul_div_cancel _ (by omega)]
    exact hs
  · obtain ⟨s, hs, u, hu, rfl⟩ := mem_prod.mp ((m.en t).mp ht)
    show (s * L.rows.length + u) / L.rows.length ∈ M.en
    rw [div_add (lg.en u hu)]
    exact hs
  · obtain ⟨y, hy, q, v, hq, hv, e⟩ := key _ ((m.mv _).mp h)
    simp only [Prod.mk.injEq] at e
    obtain ⟨rfl, rfl, rfl, rfl⟩ := e
    refine ⟨y.2.2.1, ?_, Int.le_refl _⟩
    show ((y.1 * L.rows.length + q) / L.rows.length, y.2.1, y.2.2.1, (y.2.2.2 * L.rows.length + v) / L.rows.length) ∈ M.mv
    rw [div_add hq, div_add hv]
    exact hy
theorem cls_add {c d : Int} (h : 0 ≤ d) : cls c ≤ cls (c + d) := by unfold cls; repeat' split <;> omega
theorem mem_sum {m x : Mx.Move} : x ∈ sumM N m ↔ ∃ y ∈ N.mv, y.2.1 = m.2.1 ∧ x = sumOne N.n m y := by
  unfold sumM sumL
  simp only [List.mem_map, List.mem_filter, decide_eq_true_eq]
  constructor
  · rintro ⟨y, ⟨h, e⟩, rfl⟩; exact ⟨y, h, e, rfl⟩
  · rintro ⟨y, h, e, rfl⟩; exact ⟨y, ⟨h, e⟩, rfl⟩
theorem summed_ok (a : Small lt M) (b : Small lt N) (pa : PlainM M) (pb : PlainM N) (m : Made (M.n * N.n) (prodL M.st N.st N.n) (prodL M.en N.en N.n) (M.mv.flatMap (sumM N)) R) : MOk lt R ∧ Sim (· / N.n) M R ∧ Sim (· % N.n) N R := by
  obtain ⟨oa, na, ⟨a1, a2, a3⟩, pera⟩ := a
  obtain ⟨ob, nb, ⟨b1, b2, b3⟩, perb⟩ := b
  have n1 := oa.ok.n1
  have n1' := ob.ok.n1
  have rl : (M.mv.flatMap (sumM N)).length ≤ M.mv.length * 4 := flat_len fun a _ => sumM_len perb a
  have sl : (prodL M.st N.st N.n).length ≤ M.st.length * 4 := prodL_len b1
  have el : (prodL M.en N.en N.n).length ≤ M.en.length * 4 := prodL_len b2
  have nn : M.n * N.n ≤ 4 := Nat.le_trans (Nat.mul_le_mul na nb) (by omega)
  have n0 : 1 ≤ M.n * N.n := Nat.mul_pos n1 n1'
  have key : ∀ x ∈ M.mv.flatMap (sumM N), ∃ y ∈ M.mv, ∃ z ∈ N.mv, z.2.1 = y.2.1 ∧ x = sumOne N.n y z := fun x hx => by
    obtain ⟨y, hy, hx⟩ := List.mem_flatMap.mp hx
    obtain ⟨z, hz, e, rfl⟩ := mem_sum.mp hx
    exact ⟨y, hy, z, hz, e, rfl⟩
  refine ⟨m.ok oa.lets n0 (by omega) (fun p hp => ?_) (fun p hp => ?_) (fun x hx => ?_) (by omega) (by omega) (by omega), ⟨fun t ht => ?_, fun t ht => ?_, fun t ht => ?_, fun t a c u h => ?_⟩, ⟨fun t ht => Nat.mod_lt _ (by omega), fun t ht => ?_, fun t ht => ?_, fun t a c u h => ?_⟩⟩
  · obtain ⟨t, ht, u, hu, rfl⟩ := mem_prod.mp hp
    exact lt_prod (oa.ok.st t ht) (ob.ok.st u hu)
  · obtain ⟨t, ht, u, hu, rfl⟩ := mem_prod.mp hp
    exact lt_prod (oa.ok.en t ht) (ob.ok.en u hu)
  · obtain ⟨y, hy, z, hz, e, rfl⟩ := key x hx
    obtain ⟨h1, h2, h3, h4⟩ := mvok oa hy
    obtain ⟨g1, g2, g3, g4⟩ := mvok ob hz
    have c1 := pera.cost y hy
    have c2 := perb.cost z hz
    have d1 := pa y hy
    have d2 := pb z hz
    exact ⟨lt_prod h1 g1, h2, ⟨by show -1 ≤ y.2.2.1 + z.2.2.1; omega, by show y.2.2.1 + z.2.2.1 ≤ 50; omega⟩, lt_prod h4 g4⟩
  · rw [m.n] at ht
    exact (Nat.div_lt_iff_lt_mul (by omega)).mpr ht
  · obtain ⟨s, hs, u, hu, rfl⟩ := mem_prod.mp ((m.st t).mp ht)
    show (s * N.n + u) / N.n ∈ M.st
    rw [div_add (ob.ok.st u hu)]; exact hs
  · obtain ⟨s, hs, u, hu, rfl⟩ := mem_prod.mp ((m.en t).mp ht)
    show (s * N.n + u) / N.n ∈ M.en
    rw [div_add (ob.ok.en u hu)]; exact hs
  · obtain ⟨y, hy, z, hz, e, e2⟩ := key _ ((m.mv _).mp h)
    obtain ⟨g1, g2, g3, g4⟩ := mvok ob hz
    simp only [sumOne, Prod.mk.injEq] at e2
    obtain ⟨rfl, rfl, rfl, rfl⟩ := e2
    refine ⟨y.2.2.1, ?_, cls_add (pb z hz)⟩
    show ((y.1 * N.n + z.1) / N.n, y.2.1, y.2.2.1, (y.2.2.2 * N.n + z.2.2.2) / N.n) ∈ M.mv
    rw [div_add g1, div_add g4]; exact hy
  · obtain ⟨s, hs, u, hu, rfl⟩ := mem_prod.mp ((m.st t).mp ht)
    show (s * N.n + u) % N.n ∈ N.st
    rw [mod_add (ob.ok.st u hu)]; exact hu
  · obtain ⟨s, hs, u, hu, rfl⟩ := mem_prod.mp ((m.en t).mp ht)
    show (s * N.n + u) % N.n ∈ N.en
    rw [mod_add (ob.ok.en u hu)]; exact hu
  · obtain ⟨y, hy, z, hz, e, e2⟩ := key _ ((m.mv _).mp h)
    obtain ⟨g1, g2, g3, g4⟩ := mvok ob hz
    simp only [sumOne, Prod.mk.injEq] at e2
    obtain ⟨rfl, rfl, rfl, rfl⟩ := e2
    refine ⟨z.2.2.1, ?_, by rw [Int.add_comm]; exact cls_add (pa y hy)⟩
    show ((y.1 * N.n + z.1) % N.n, y.2.1, z.2.2.1, (y.2.2.2 * N.n + z.2.2.2) % N.n) ∈ N.mv
    rw [mod_add g1, mod_add g4, ← e]; exact hz
theorem mir_mir (x : Mx.Move) : mir (mir x) = x := rfl
theorem mirrored_ok (oa : MOk lt M) (pl : PlainM M) (l : Lite M) (m : Made M.n M.en M.st (M.mv.map mir) R) : MOk lt R ∧ PlainM R ∧ Lite R := by
  obtain ⟨a1, a2, a3⟩ := l
  refine ⟨m.ok oa.lets oa.ok.n1 oa.n12 oa.ok.en oa.ok.st (fun x hx => ?_) (by omega) (by omega) (by simp; omega), fun x hx => ?_, m.okS a2 a1 (by simp; omega)⟩
  · obtain ⟨y, hy, rfl⟩ := List.mem_map.mp hx
    obtain ⟨h1, h2, h3, h4⟩ := mvok oa hy
    exact ⟨h4, h2, h3, h1⟩
  · obtain ⟨y, hy, rfl⟩ := List.mem_map.mp ((m.mv x).mp hx)
    exact pl y hy
theorem mirror2_sim {R2 : Mach} (m : Made M.n M.en M.st (M.mv.map mir) R) (m2 : Made R.n R.en R.st (R.mv.map mir) R2) : Sim id R2 M :=
  ⟨fun t ht => by rw [m2.n, m.n]; exact ht, fun t ht => (m2.st _).mpr ((m.en _).mpr ht), fun t ht => (m2.en _).mpr ((m.st _).mpr ht), fun t a c u h => ⟨c, (m2.mv _).mpr (List.mem_map.mpr ⟨(u, a, c, t), (m.mv _).mpr (List.mem_map.mpr ⟨_, h, rfl⟩), rfl⟩), Int.le_refl _⟩⟩
theorem scaled_ok (a : Small lt M) (pl : PlainM M) (m : Made M.n M.st M.en (M.mv.map dbl) R) : MOk lt R ∧ Sim id M R ∧ Sim id R M := by
  obtain ⟨oa, na, ⟨a1, a2, a3⟩, per⟩ := a
  refine ⟨m.ok oa.lets oa.ok.n1 oa.n12 oa.ok.st oa.ok.en (fun x hx => ?_) (by omega) (by omega) (by simp; omega), ⟨fun t ht => by rw [m.n] at ht; exact ht, fun t ht => (m.st _).mp ht, fun t ht => (m.en _).mp ht, fun t a c u h => ?_⟩, ⟨fun t ht => by rw [m.n]; exact ht, fun t ht => (m.st _).mpr ht, fun t ht => (m.en _).mpr ht, fun t a c u h => ?_⟩⟩
  · obtain ⟨y, hy, rfl⟩ := List.mem_map.mp hx
    obtain ⟨h1, h2, h3, h4⟩ := mvok oa hy
    have c1 := per.cost y hy
    have d1 := pl y hy
    exact ⟨h1, h2, ⟨by show -1 ≤ y.2.2.1 * 2; omega, by show y.2.2.1 * 2 ≤ 50; omega⟩, h4⟩
  · obtain ⟨y, hy, e⟩ := List.mem_map.mp ((m.mv _).mp h)
    simp only [dbl, Prod.mk.injEq] at e
    obtain ⟨rfl, rfl, rfl, rfl⟩ := e
    have d1 := pl y hy
    exact ⟨y.2.2.1, hy, by unfold cls; repeat' split <;> omega⟩
  · have d1 : 0 ≤ c := pl _ h
    exact ⟨c * 2, (m.mv _).mpr (List.mem_map.mpr ⟨_, h, rfl⟩), by unfold cls; repeat' split <;> omega⟩
theorem same_sim (M : Mach) : Sim id M M := ⟨fun _ h => h, fun _ h => h, fun _ h => h, fun t a c u h => ⟨c, h, Int.le_refl _⟩⟩
/-! ### trimmed -/
theorem reach_fwd {s : Nat} : Reach (fwd M.mv) M.st s ↔ ∃ s0 ∈ M.st, Way M s0 s := by
  constructor
  · intro h
    induction h with
    | base h => exact ⟨_, h, .here _⟩
    | step _ hq ih =>
      obtain ⟨s0, h0, w⟩ := ih
      obtain ⟨a, c, hm⟩ := fwd_mem.mp hq
      exact ⟨s0, h0, w.last hm⟩
  · rintro ⟨s0, h0, w⟩
    have gen : ∀ {p q : Nat}, Way M p q → Reach (fwd M.mv) M.st p → Reach (fwd M.mv) M.st q := fun {p q} w => by
      induction w with
      | here => exact id
      | go hm _ ih => exact fun r => ih (.step r (fwd_mem.mpr ⟨_, _, hm⟩))
    exact gen w (.base h0)
theorem reach_bwd {s : Nat} : Reach (bwd M.mv) M.en s ↔ ∃ e ∈ M.en, Way M s e := by
  constructor
  · intro h
    induction h with
    | base h => exact ⟨_, h, .here _⟩
    | step _ hq ih =>
      obtain ⟨e, h0, w⟩ := ih
      obtain ⟨a, c, hm⟩ := bwd_mem.mp hq
      exact ⟨e, h0, .go hm w⟩
  · rintro ⟨e, h0, w⟩
    have gen : ∀ {p q : Nat}, Way M p q → Reach (bwd M.mv) M.en q → Reach (bwd M.mv) M.en p := fun {p q} w => by
      induction w with
      | here => exact id
      | go hm _ ih => exact fun r => .step (ih r) (bwd_mem.mpr ⟨_, _, hm⟩)
    exact gen w (.base h0)
theorem kept_iff {ks : List Nat} (k : KeptL M ks) (q : Nat) : q ∈ ks ↔ Kept M q := by
  rw [k.mem, reach_fwd, reach_bwd]; rfl
theorem trim_of {ks : List Nat} (k : KeptL M ks) (m : Made ks.length (M.st.filterMap (placeO ks)) (M.en.filterMap (placeO ks)) (M.mv.filterMap (placeM ks)) R) : Trim M R ks where
  nd := k.nd
  mem := kept_iff k
  n := m.n
  st := fun i => by
    rw [m.st, List.mem_filterMap]
    constructor
    · rintro ⟨p, hp, e⟩; exact ⟨p, (placeO_some k.nd).mp e, hp⟩
    · rintro ⟨p, e, hp⟩; exact ⟨p, hp, (placeO_some k.nd).mpr e⟩
  en := fun i => by
    rw [m.en, List.mem_filterMap]
    constructor
    · rintro ⟨p, hp, e⟩; exact ⟨p, (placeO_some k.nd).mp e, hp⟩
    · rintro ⟨p, e, hp⟩; exact ⟨p, hp, (placeO_some k.nd).mpr e⟩
  mv := fun i a c j => by
    rw [m.mv, List.mem_filterMap]
    constructor
    · rintro ⟨⟨p, a', c', q⟩, hp, e⟩
      unfold placeM at e
      cases e1 : placeO ks p with
      | none => simp [e1] at e
      | some i' =>
        cases e2 : placeO ks q with
        | none => simp [e1, e2] at e
        | some j' =>
          simp only [e1, e2, Option.some.injEq, Prod.mk.injEq] at e
          obtain ⟨rfl, rfl, rfl, rfl⟩ := e
          exact ⟨p, q, (placeO_some k.nd).mp e1, (placeO_some k.nd).mp e2, hp⟩
    · rintro ⟨p, q, e1, e2, hp⟩
      refine ⟨_, hp, ?_⟩
      unfold placeM
      rw [(placeO_some k.nd).mpr e1, (placeO_some k.nd).mpr e2]
theorem trimmed_ok {ks : List Nat} (a : Small lt M) (k : KeptL M ks) (ne : ks ≠ []) (m : Made ks.length (M.st.filterMap (placeO ks)) (M.en.filterMap (placeO ks)) (M.mv.filterMap (placeM ks)) R) : MOk lt R := by
  obtain ⟨oa, na, ⟨a1, a2, a3⟩, per⟩ := a
  have b1 := List.length_filterMap_le (placeO ks) M.st
  have b2 := List.length_filterMap_le (placeO ks) M.en
  have b3 := List.length_filterMap_le (placeM ks) M.mv
  have lt1 : ∀ {i p : Nat}, placeO ks p = some i → i < ks.length := fun e => (List.getElem?_eq_some_iff.mp ((placeO_some k.nd).mp e)).1
  have kl : ks.length ≤ M.n := by
    have := nodup_len (m := List.range M.n) k.nd fun s hs => List.mem_range.mpr ((k.mem s).mp hs).1
    rwa [List.length_range] at this
  refine m.ok oa.lets (List.length_pos_iff.mpr ne) (by omega) (fun p hp => ?_) (fun p hp => ?_) (fun x hx => ?_) (by omega) (by omega) (by omega)
  · obtain ⟨t, _, e⟩ := List.mem_filterMap.mp hp
    exact lt1 e
  · obtain ⟨t, _, e⟩ := List.mem_filterMap.mp hp
    exact lt1 e
  · obtain ⟨⟨p, a', c', q⟩, hp, e⟩ := List.mem_filterMap.mp hx
    obtain ⟨h1, h2, h3, h4⟩ := mvok oa hp
    unfold placeM at e
    cases e1 : placeO ks p with
    | none => simp [e1] at e
    | some i' =>
      cases e2 : placeO ks q with
      | none => simp [e1, e2] at e
      | some j' =>
        simp only [e1, e2, Option.some.injEq] at e
        subst e
        exact ⟨lt1 e1, h2, h3, lt1 e2⟩
theorem none_ok (a : Small lt M) : MOk lt ⟨1, [], [], []⟩ := ⟨a.ok.lets, ⟨by decide, fun p hp => by simp at hp, fun p hp => by simp at hp, fun _ _ _ _ h => by simp at h⟩, by decide, by simp [zs], by simp [zs], by simp, by simp, by simp, by simp⟩
end
end Kw

set_option maxRecDepth 100000
set_option maxHeartbeats 1000000
/-! the law's well -/
namespace Kw
open PySem PySem.Spec PyProof.Rows L2 KD Mx
theorem FrX.refl (a : Addr) (H : Hp) : FrX a H H := fun _ _ _ h => h
theorem FrX.of {a : Addr} {H H' : Hp} (h : Same H H') : FrX a H H' := fun b u _ e => h b u e
theorem FrX.upd {a : Addr} {H : Hp} {o : HO} : FrX a H (upd H a o) := fun b u n e => by rw [upd_ne n]; exact e
theorem FrX.kpL {a : Addr} {H H' : Hp} (h : FrX a H H') {xs ys : List V} (e : H a = some (.lst xs)) (e' : H' a = some (.lst ys)) : Kp H H' := by
  refine ⟨fun b zs r => ?_, fun b zs r => ?_⟩
  · by_cases c : b = a
    · subst c
      rcases r with r | ⟨o, r⟩ <;> (rw [e] at r; cases r)
    · rcases r with r | ⟨o, r⟩
      · exact .inl (h b _ c r)
      · exact .inr ⟨o, h b _ c r⟩
  · by_cases c : b = a
    · subst c
      exact ⟨ys, .inl e'⟩
    · rcases r with r | ⟨o, r⟩
      · exact ⟨zs, .inl (h b _ c r)⟩
      · exact ⟨zs, .inr ⟨o, h b _ c r⟩⟩
theorem FrX.mut {a : Addr} {H H' : Hp} {p : Addr} {o : HO} (f : FrX a H H') (hp : H p = none) : FrX a H (L2.upd H' p o) := fun b u n e => by
  rw [upd_ne (fun z => by rw [z, hp] at e; cases e)]
  exact f b u n e
structure WellAt (H : Hp) (a c : Addr) (xs : List Int) (w1 w2 : Int) : Prop where
  ta : H a = some (.lst [.ref c, .int w1, .int w2])
  tc : H c = some (.lst (xs.map V.int))
  ne : c ≠ a
def Well (H : Hp) (a c : Addr) : Prop := ∃ xs w1 w2, WellAt H a c xs w1 w2
theorem WellAt.mono {H H' : Hp} {a c : Addr} {xs : List Int} {w1 w2 : Int} (h : WellAt H a c xs w1 w2) (s : Same H H') : WellAt H' a c xs w1 w2 := ⟨s _ _ h.ta, s _ _ h.tc, h.ne⟩
theorem Well.mono {H H' : Hp} {a c : Addr} (h : Well H a c) (s : Same H H') : Well H' a c := by
  obtain ⟨xs, w1, w2, z⟩ := h
  exact ⟨xs, w1, w2, z.mono s⟩
theorem Well.lst {H : Hp} {a c : Addr} (h : Well H a c) : ∃ xs, H a = some (.lst xs) := by
  obtain ⟨xs, w1, w2, z⟩ := h
  exact ⟨_, z.ta⟩
theorem Well.put {H : Hp} {a c p : Addr} {o : HO} (h : Well H a c) (n1 : p ≠ a) (n2 : p ≠ c) : Well (L2.upd H p o) a c := by
  obtain ⟨xs, w1, w2, z⟩ := h
  exact ⟨xs, w1, w2, by rw [upd_ne (Ne.symm n1)]; exact z.ta, by rw [upd_ne (Ne.symm n2)]; exact z.tc, z.ne⟩
theorem Well.kp {H H' : Hp} {a c c' : Addr} (h : Well H a c) (h' : Well H' a c') (f : FrX a H H') : Kp H H' := by
  obtain ⟨xs, e⟩ := h.lst
  obtain ⟨ys, e'⟩ := h'.lst
  exact f.kpL e e'
/-- draws: all but the well stands -/
structure Dr (a c : Addr) (H : Hp) (c' : Addr) (H' : Hp) : Prop where
  fr : FrX a H H'
  new : c' = c ∨ H c' = none
  well : Well H' a c'
theorem Dr.same {a c : Addr} {H H' : Hp} (h : Well H a c) (s : Same H H') : Dr a c H c H' := ⟨.of s, .inl rfl, h.mono s⟩
theorem Dr.trans {a c c1 c2 : Addr} {H H1 H2 : Hp} (h : Dr a c H c1 H1) (k : Dr a c1 H1 c2 H2) : Dr a c H c2 H2 := by
  refine ⟨h.fr.trans k.fr, ?_, k.well⟩
  rcases k.new with e | e
  · rw [e]; exact h.new
  · right
    cases e1 : H c2 with
    | none => rfl
    | some u =>
      by_cases z : c2 = a
      · obtain ⟨xs, w⟩ := h.well.lst
        rw [← z, e] at w; cases w
      · rw [h.fr _ _ z e1] at e; cases e
theorem Dr.kp {a c c1 : Addr} {H H1 : Hp} (h : Dr a c H c1 H1) (w : Well H a c) : Kp H H1 := w.kp h.well h.fr
section
variable {K : PySem.W.Frag} {H : Hp} {σ : L2.St} {te ta tb : TE} {tt : TT} {t1 : TS} {D : Ends} {u : TS} {a c : Addr} {xs : List Int} {w1 w2 : Int}
theorem evd_intC {i : Int} (h : EvD K te σ H (.int i)) : EvD K (tCB rInt1' (tCons te tNil)) σ H (.int i) := fun H1 s Q q => h.run s fun v H2 s2 p2 => by
  cases p2
  exact .inl ⟨i, rfl, q _ H2 _ s2 (.int i) rfl⟩
theorem evd_intB {b : Bool} (h : EvD K te σ H (.bool b)) : EvD K (tCB rInt1' (tCons te tNil)) σ H (.int (if b then 1 else 0)) := fun H1 s Q q => h.run s fun v H2 s2 p2 => by
  cases p2
  exact .inr ⟨b, rfl, q _ H2 _ s2 (.int _) rfl⟩
theorem ref_ixLs {p q : Addr} {xs : List V} {i : Nat} (hs : SqL K H p xs) (hx : xs[i]? = some (.ref q)) (ha : Ref ta σ H p) (hb : EvD K tb σ H (.int i)) : Ref (tOp (rIxL K) ta tb) σ H q := fun H1 s Q hq => ha H1 s _ fun H2 s2 => hb.run (s.trans s2) fun y H3 s3 p3 => by
  cases p3
  exact ⟨p, xs, i, .ref q, rfl, rfl, sqL_same ((s.trans s2).trans s3) hs, atI_nat hx, hq H3 (s2.trans s3)⟩
theorem ixN_at {n j : Nat} (hj : j < n) : ixN n (j : Int) = some j := by
  unfold ixN
  rw [if_pos (by omega), if_pos (by omega)]
  simp
theorem evq_setI {i j : Nat} {p : Addr} {xs : List V} {d : PyData} (hp : H p = some (.lst xs)) (hi : i < xs.length) (hv : σ[j]? = some (some (.ref p))) (h : EvD K te σ H d) (q : ∀ v H1, Same H H1 → Dq K H1 v d → u D σ (upd H1 p (.lst (xs.set i v)))) :
    tSeq (tAsg te (gSub (tVar j) (tC (.int (i : Nat))) rSetL)) u D σ H := h.use _ fun v H1 s1 p1 => ⟨.ref p, hv, p, xs, i, i, rfl, rfl, s1 _ _ hp, ixN_at hi, q v H1 s1 p1⟩
theorem evs_setI {i j : Nat} {p : Addr} {xs : List V} {d : PyData} (hp : H p = some (.lst xs)) (hi : i < xs.length) (hv : σ[j]? = some (some (.ref p))) (h : EvD K te σ H d) (q : ∀ v H1, Same H H1 → Dq K H1 v d → D.nx σ (upd H1 p (.lst (xs.set i v)))) :
    tAsg te (gSub (tVar j) (tC (.int (i : Nat))) rSetL) D σ H := h.use _ fun v H1 s1 p1 => ⟨.ref p, hv, p, xs, i, i, rfl, rfl, s1 _ _ hp, ixN_at hi, q v H1 s1 p1⟩
theorem well_ix {i : Nat} {d : PyData} (hb : WellAt H a c xs w1 w2) (h0 : σ[0]? = some (some (.ref a))) (h : ([PyData.list [], .int w1, .int w2] : List PyData)[i]? = some d) : EvD K (tOp (rIxL K) (tVar 0) (tC (.int (i : Nat)))) σ H d :=
  evd_ixLs (.inl (.inl hb.ta)) (.cons (.lst (.inl (.inl hb.tc))) (.cons (.int _) (.one (.int _)))) (evr_v 0 h0) evd_int h
theorem well_ref (hb : WellAt H a c xs w1 w2) (h0 : σ[0]? = some (some (.ref a))) : Ref (tOp (rIxL K) (tVar 0) (tC (.int 0))) σ H c :=
  ref_ixLs (i := 0) (.inl (.inl hb.ta)) rfl (evr_v 0 h0) (evd_int (K := K))
theorem evd_abs {i : Int} (h : EvD K te σ H (.int i)) : EvD K (tCB (fun xs H Q => ∃ i, xs = [.int i] ∧ Q (.int (if i < 0 then -i else i)) H) (tCons te tNil)) σ H (.int (if i < 0 then -i else i)) := fun H1 s Q q => h.run s fun v H2 s2 p2 => by
  cases p2
  exact ⟨i, rfl, q _ H2 _ s2 (.int _) rfl⟩
theorem evq_tail {x : Int} {l : List Int} (hb : WellAt H a c (x :: l) w1 w2) (h0 : σ[0]? = some (some (.ref a))) (q : ∀ c' H', H c' = none → FrX a H H' → WellAt H' a c' l w1 w2 → u D σ H') : tSeq (tAsg (tSl (rSlL K) (tOp (rIxL K) (tVar 0) (tC (.int 0))) (tPart (tC (.int 1))) tNoPart) (gSub (tVar 0) (tC (.int 0)) rSetL)) u D σ H :=
  (well_ref (K := K) hb h0) H (Same.refl _) _ fun H1 s1 => ⟨1, rfl, c, _, rfl, .inl (.inl (s1 _ _ hb.tc)), fun c' hc' => by
    have hb1 := hb.mono s1
    have ne : c' ≠ a := fun e => by rw [e, hb1.ta] at hc'; cases hc'
    have e1 : (upd H1 c' (.lst (cutV ((x :: l).map V.int) (some 1) none))) a = some (.lst [.ref c, .int w1, .int w2]) := by rw [upd_ne (Ne.symm ne)]; exact hb1.ta
    refine ⟨.ref a, h0, a, _, 0, 0, rfl, rfl, e1, ixN_at (by simp), q c' _ (s1.free hc') ((FrX.of s1).trans ((FrX.of (same_new hc')).trans .upd)) ⟨by rw [upd_same]; rfl, ?_, ne⟩⟩
    rw [upd_ne ne, upd_same]
    rw [show cutV ((x :: l).map V.int) (some 1) none = l.map V.int from cut_one _]⟩
theorem draw_end {many : Nat} {x2 x3 : Option V} (hb : Well H a c) (m0 : 0 < many) (m1 : many ≤ 1000) (q : ∀ (g : Int) H', 0 ≤ g → g < (many : Int) → FrX a H H' → Well H' a c → D.rt (.int g) H') :
    tSeq (tIfS (tTest (tOp (rI0 fun i j => .bl (decide (i ≥ j))) (tOp (rIxL K) (tVar 0) (tC (.int 1))) (tOp (rI CPow fun i j => .int (i ^ j.toNat)) (tC (.int 10)) (tC (.int 9)))))
        (tSeq (tAsg (tOp (rI (fun _ j => 0 < j) fun i j => .int (i % j)) (tCB rInt1' (tCons (tOp (rIxL K) (tVar 0) (tC (.int 1))) tNil)) (tVar 1)) (gName 4))
          (tSeq (tAsg (tOp (rI CDiv fun i j => .int (i / j)) (tOp (rIxL K) (tVar 0) (tC (.int 1))) (tVar 1)) (gSub (tVar 0) (tC (.int 1)) rSetL)) (tRet (tVar 4)))) tNext)
      (tSeq (tAsg (tOp (rI (fun _ j => 0 < j) fun i j => .int (i % j)) (tCB rInt1' (tCons (tOp (rI0 fun i j => .int (i + j)) (tOp (rI CMul fun i j => .int (i * j)) (tOp (rIxL K) (tVar 0) (tC (.int 2))) (tC (.int 39373))) (tC (.int 101))) tNil)) (tC (.int 2147483647))) (gSub (tVar 0) (tC (.int 2)) rSetL))
        (tRet (tOp (rI (fun _ j => 0 < j) fun i j => .int (i % j)) (tCB rInt1' (tCons (tOp (rI CDiv fun i j => .int (i / j)) (tOp (rIxL K) (tVar 0) (tC (.int 2))) (tC (.int 89))) tNil)) (tVar 1)))) D [some (.ref a), some (.int (many : Nat)), x2, x3, none] H := by
  obtain ⟨xs, w1, w2, hb⟩ := hb
  refine evq_ifn (evb_test (evd_lt (K := K) (g := fun i j => decide (i ≥ j)) (well_ix (i := 1) hb rfl rfl) (evd_arC (C := CPow) (g := fun i j => i ^ j.toNat) evd_int evd_int ⟨by decide, by decide, by decide⟩))) (fun _ H1 s1 => ?_) fun _ H1 s1 => ?_
  · have hb1 := hb.mono s1
    refine evq_setD (K := K) (evd_arC (C := fun _ j => 0 < j) (g := fun i j => i % j) (evd_intC (well_ix (i := 1) hb1 rfl rfl)) (evd_v 1 rfl (.int (many : Nat))) (by omega)) fun v H2 s2 p2 => ?_
    cases p2
    have hb2 := hb1.mono s2
    refine evq_setI (K := K) (i := 1) hb2.ta (by simp) rfl (evd_arC (C := CDiv) (g := fun i j => i / j) (well_ix (i := 1) hb2 rfl rfl) (evd_v 1 rfl (.int (many : Nat))) ⟨by omega, by omega⟩) fun v H3 s3 p3 => ?_
    cases p3
    have hb3 := hb2.mono s3
    refine ⟨_, rfl, q _ _ (Int.emod_nonneg _ (by omega)) (Int.emod_lt_of_pos _ (by omega)) ((FrX.of (s1.trans (s2.trans s3))).trans .upd) ⟨xs, _, w2, ⟨upd_same, by rw [upd_ne hb3.ne]; exact hb3.tc, hb3.ne⟩⟩⟩
  · have hb1 := hb.mono s1
    refine evq_setI (K := K) (i := 2) hb1.ta (by simp) rfl (evd_arC (C := fun _ j => 0 < j) (g := fun i j => i % j) (evd_intC (evd_ar (g := fun i j => i + j) (evd_arC (C := CMul) (g := fun i j => i * j) (well_ix (i := 2) hb1 rfl rfl) evd_int (.inr ⟨by decide, by decide⟩)) evd_int)) evd_int (by decide)) fun v H2 s2 p2 => ?_
    cases p2
    have hb2 := hb1.mono s2
    have hb3 : WellAt (upd H2 a (.lst (List.set [.ref c, .int w1, .int w2] 2 (.int ((w2 * 39373 + 101) % 2147483647))))) a c xs w1 ((w2 * 39373 + 101) % 2147483647) := ⟨upd_same, by rw [upd_ne hb2.ne]; exact hb2.tc, hb2.ne⟩
    exact evs_retD (K := K) (evd_arC (C := fun _ j => 0 < j) (g := fun i j => i % j) (evd_intC (evd_arC (C := CDiv) (g := fun i j => i / j) (well_ix (i := 2) hb3 rfl rfl) evd_int ⟨by decide, by decide⟩)) (evd_v 1 rfl (.int (many : Nat))) (by omega)) fun v H3 s3 p3 => by
      cases p3
      exact q _ _ (Int.emod_nonneg _ (by omega)) (Int.emod_lt_of_pos _ (by omega)) (((FrX.of (s1.trans s2)).trans .upd).trans (.of s3)) ⟨xs, _, _, hb3.mono s3⟩
theorem ret_lst3 {i j : Int} (h : te σ H fun x H1 => [x, .int i, .int j].length ≤ sizeLine ∧ ∀ p, H1 p = none → D.rt (.ref p) (L2.upd H1 p (.lst [x, .int i, .int j]))) : tRet (tLst (tCons te (tCons (tC (.int i)) (tCons (tC (.int j)) tNil)))) D σ H := h
theorem evq_ifS {b : Bool} {R : L2.St → Hp → Prop} (h : EvB tt σ H b) (rest : ∀ σ' H', R σ' H' → u D σ' H') (h1 : b = true → ∀ H1, Same H H1 → (∀ σ' H', R σ' H' → u D σ' H') → t1 { D with nx := u D } σ H1) (h2 : b = false → ∀ H1, Same H H1 → R σ H1) : tSeq (tIfS tt t1 tNext) u D σ H :=
  evq_ifn h (fun hb H1 s => h1 hb H1 s rest) fun hb H1 s => rest _ H1 (h2 hb H1 s)
end
section
variable {P : Program} {w : World} {K : PySem.W.Frag} {mg : Str → Option Value} {base : Heap}
def spDraw : Sp := fun vs H Q _ => ∃ (a c : Addr) (many : Nat), vs = [.ref a, .int (many : Nat)] ∧ Well H a c ∧ 0 < many ∧ many ≤ 1000 ∧ ∀ (g : Nat) c' H', g < many → Dr a c H c' H' → Q (.int (g : Nat)) H'
theorem ok_l_draw (T : Txt K mg) : FnOk P w K mg base CX0 1 T.A_l_draw.f T.A_l_draw.d ["well", "many"] spDraw := by
  refine T.A_l_draw.F.ok sc_l_draw (fun vs H Q E h => ?_) (fun cdv A outer s H vs Q E hr h => ?_)
  · obtain ⟨_, _, _, rfl, _⟩ := h; rfl
  · obtain ⟨a, c, many, rfl, ⟨xs, w1, w2, hb⟩, m0, m1, q⟩ := h
    refine ⟨_, ((pss_cons (ps_if (PW.pt (pw_and (pt_cmpR op_lt (pe_ix (kIxL (K := K)) (pv 0) pe_int (fun _ _ => rfl)) (pe_op op_pow pe_int pe_int) (nomark _)) (pw_and1 (pt_cmpR (kNeD (K := K) (hu64 hr)) (pe_ix (kIxL (K := K)) (pv 0) pe_int (fun _ _ => rfl)) (pe_lst pa_nil) (nomark _))))) (pss_cons (ps_set (i := 2) sc_l_draw.nd rfl (.inl rfl) (pe_ix (kIxL (K := K)) (pe_ix (kIxL (K := K)) (pv 0) pe_int (fun _ _ => rfl)) pe_int (fun _ _ => rfl)))
  (pss_cons (ps_asg (pe_slice (kSlL (K := K)) (pe_ix (kIxL (K := K)) (pv 0) pe_int (fun _ _ => rfl)) (po_some pe_int) po_none) (pg_sub (pv 0) pe_int set_list))
  (pss_cons (ps_set (i := 3) sc_l_draw.nd rfl (.inl rfl) (pe_op op_add (pe_op op_mul pe_int (pe_callB (kAbs) (by rfl) T.n_abs (by decide +kernel) (pa_cons (pv 2) pa_nil))) (pe_callTy kInt1 (by rfl) T.n_int (by decide +kernel) (pa_cons (pe_cmpR op_lt (pv 2) pe_int (nomark _)) pa_nil))))
  (pss_one (ps_if (pt_cmpR op_ge (pv 3) (pe_op op_pow pe_int pe_int) (nomark _)) (pss_one (ps_asg (pv 3) (pg_sub (pv 0) pe_int set_list))) (pss_one (ps_asg (pe_op op_mod (pe_callTy kInt1 (by rfl) T.n_int (by decide +kernel) (pa_cons (pe_op op_add (pe_op op_add (pe_op op_mul (pe_ix (kIxL (K := K)) (pv 0) pe_int (fun _ _ => rfl)) pe_int) (pe_op op_mul (pv 3) pe_int)) pe_int) pa_nil)) pe_int) (pg_sub (pv 0) pe_int set_list)))))))) pss_nil)
  (pss_cons (ps_if (pt_cmpR op_ge (pe_ix (kIxL (K := K)) (pv 0) pe_int (fun _ _ => rfl)) (pe_op op_pow pe_int pe_int) (nomark _)) (pss_cons (ps_set (i := 4) sc_l_draw.nd rfl (.inl rfl) (pe_op op_mod (pe_callTy kInt1 (by rfl) T.n_int (by decide +kernel) (pa_cons (pe_ix (kIxL (K := K)) (pv 0) pe_int (fun _ _ => rfl)) pa_nil)) (pv 1)))
  (pss_cons (ps_asg (pe_op op_fdiv (pe_ix (kIxL (K := K)) (pv 0) pe_int (fun _ _ => rfl)) (pv 1)) (pg_sub (pv 0) pe_int set_list))
  (pss_one (ps_ret (pv 4))))) pss_nil)
  (pss_cons (ps_asg (pe_op op_mod (pe_callTy kInt1 (by rfl) T.n_int (by decide +kernel) (pa_cons (pe_op op_add (pe_op op_mul (pe_ix (kIxL (K := K)) (pv 0) pe_int (fun _ _ => rfl)) pe_int) pe_int) pa_nil)) pe_int) (pg_sub (pv 0) pe_int set_list))
  (pss_one (ps_ret (pe_op op_mod (pe_callTy kInt1 (by rfl) T.n_int (by decide +kernel) (pa_cons (pe_op op_fdiv (pe_ix (kIxL (K := K)) (pv 0) pe_int (fun _ _ => rfl)) pe_int) pa_nil)) (pv 1)))))))), ?_⟩
    have q' : ∀ (g : Int) c' H', 0 ≤ g → g < (many : Int) → Dr a c H c' H' → Q (.int g) H' := fun g c' H' h0 h1 f => by
      have := q g.toNat c' H' (by omega) f
      rwa [Int.toNat_of_nonneg h0] at this
    refine evq_ifS (R := fun σ' H' => ∃ x2 x3, σ' = [some (.ref a), some (.int (many : Nat)), x2, x3, none] ∧ ∃ c', Dr a c H c' H') (evb_and (evb_test (evd_lt (K := K) (g := fun i j => decide (i < j)) (well_ix (i := 1) hb rfl rfl) (evd_arC (C := CPow) (g := fun i j => i ^ j.toNat) evd_int evd_int ⟨by decide, by decide, by decide⟩))) fun _ => evb_test (evd_neNil (K := K) (n := 0) (.inl (.inl hb.tc)) (DqAll.ints xs) (fun d hd => ?_) (by decide) (well_ref hb rfl))) ?_ (fun hc H1 s1 rest => ?_) fun hc H1 s1 => ⟨_, _, rfl, c, .of s1, .inl rfl, _, _, _, hb.mono s1⟩
    · obtain ⟨i, _, rfl⟩ := List.mem_map.mp hd
      exact good_int _
    · rintro σ' H' ⟨x2, x3, rfl, c', f⟩
      exact draw_end (K := K) f.well m0 m1 fun g H2 h0 h1 f2 w2 => q' g c' H2 h0 h1 (f.trans ⟨f2, .inl rfl, w2⟩)
    · have hne : xs ≠ [] := fun e => by
        rw [e] at hc
        simp at hc
      obtain ⟨x, l, rfl⟩ := List.exists_cons_of_ne_nil hne
      have hb1 := hb.mono s1
      refine evq_setD (K := K) (evd_ixLs (i := 0) (f := .int x) (.inl (.inl hb1.tc)) (DqAll.ints _) (well_ref hb1 rfl) evd_int rfl) fun v H2 s2 p2 => ?_
      cases p2
      refine evq_tail (K := K) (hb1.mono s2) rfl fun c' H3 nc' f3 hb3 => ?_
      refine evq_setD (K := K) (evd_ar (g := fun i j => i + j) (evd_arC (C := CMul) (g := fun i j => i * j) evd_int (evd_abs (evd_v 2 rfl (.int x))) (.inl ⟨by decide, by decide⟩)) (evd_intB (evd_lt (g := fun i j => decide (i < j)) (evd_v 2 rfl (.int x)) evd_int))) fun v H4 s4 p4 => ?_
      cases p4
      have hb4 := hb3.mono s4
      have nc0 : H c' = none := (s1.trans s2).free nc'
      have f04 : FrX a H H4 := ((FrX.of (s1.trans s2)).trans f3).trans (.of s4)
      refine evs_if (evb_test (evd_lt (K := K) (g := fun i j => decide (i ≥ j)) (evd_v 3 rfl (.int _)) (evd_arC (C := CPow) (g := fun i j => i ^ j.toNat) evd_int evd_int ⟨by decide, by decide, by decide⟩))) (fun _ H5 s5 => ?_) fun _ H5 s5 => ?_
      · have hb5 := hb4.mono s5
        refine evs_setI (K := K) (i := 1) hb5.ta (by simp) rfl (evd_v 3 rfl (.int _)) fun v H6 s6 p6 => ?_
        cases p6
        have hb6 := hb5.mono s6
        exact rest _ _ ⟨_, _, rfl, c', ((f04.trans (.of (s5.trans s6))).trans .upd), .inr nc0, l, _, w2, ⟨upd_same, by rw [upd_ne hb6.ne]; exact hb6.tc, hb6.ne⟩⟩
      · have hb5 := hb4.mono s5
        refine evs_setI (K := K) (i := 2) hb5.ta (by simp) rfl (evd_arC (C := fun _ j => 0 < j) (g := fun i j => i % j) (evd_intC (evd_ar (g := fun i j => i + j) (evd_ar (g := fun i j => i + j) (evd_arC (C := CMul) (g := fun i j => i * j) (well_ix (i := 2) hb5 rfl rfl) evd_int (.inr ⟨by decide, by decide⟩)) (evd_arC (C := CMul) (g := fun i j => i * j) (evd_v 3 rfl (.int _)) evd_int (.inr ⟨by decide, by decide⟩))) evd_int)) evd_int (by decide)) fun v H6 s6 p6 => ?_
        cases p6
        have hb6 := hb5.mono s6
        exact rest _ _ ⟨_, _, rfl, c', ((f04.trans (.of (s5.trans s6))).trans .upd), .inr nc0, l, w1, _, ⟨upd_same, by rw [upd_ne hb6.ne]; exact hb6.tc, hb6.ne⟩⟩
def spWell (K : PySem.W.Frag) : Sp := fun vs H Q _ => ∃ (p : Addr) (ns : List Int), vs = [.ref p] ∧ SqL K H p (ns.map V.int) ∧ ns.length ≤ 63 ∧ ∀ a c H', H a = none → Same H H' → Well H' a c → Q (.ref a) H'
theorem ok_l_well (T : Txt K mg) : FnOk P w K mg base CX0 1 T.A_l_well.f T.A_l_well.d ["script"] (spWell K) := by
  refine T.A_l_well.F.ok sc_l_well (fun vs H Q E h => ?_) (fun cdv A outer s H vs Q E hr h => ?_)
  · obtain ⟨_, _, rfl, _⟩ := h; rfl
  · obtain ⟨p, ns, rfl, hs, few, q⟩ := h
    refine ⟨_, ((pss_one (ps_ret (pe_lst (pa_cons (pe_lc (own := [("cell", 1)]) (g := gName 1) (tt := tYes) rfl sc_l_well.nd (kiList (K := K) (pe_slice (kSlL (K := K)) (pv 0) po_none (po_some pe_int))) (blkOk_by (own := [("cell", 1)]) (N := ["script", "cell"]) (sc := defScope s_l_well) (by decide +kernel)) (fun _ _ _ _ _ => (pg_name (i := 1) sc_l_well.nd rfl (.inl rfl))) (fun _ _ _ _ _ => pts_nil) (fun _ _ _ _ _ => (pe_callTy kInt1 (by rfl) T.n_int (by decide +kernel) (pa_cons (pv 1) pa_nil)))) (pa_cons pe_int (pa_cons pe_int pa_nil))))))), ?_⟩
    have sl : EvL K (tSl (rSlL K) (tVar 0) tNoPart (tPart (tC (.int 63)))) [some (.ref p), none] H (ns.map .int) := fun H1 s1 Q1 q1 => ⟨_, rfl, 63, rfl, p, _, rfl, sqL_same s1 hs, fun c hc => by
      have e : cutV (ns.map V.int) none (some 63) = ns.map V.int := by
        unfold cutV
        rw [HT.sIx_none, show HT.sIx (ns.map V.int).length (ns.map V.int).length (some 63) = min 63 (ns.map V.int).length from HT.sIx_nat _ _ 63]
        rw [List.drop_zero, List.length_map, List.take_of_length_le (by rw [List.length_map]; omega)]
      rw [e]
      exact q1 c _ _ hc (same_new hc) upd_same (.ints _)⟩
    refine ret_lst3 ?_
    refine (evl_mapG (K := K) (i := 1) (l := ns) (g := .int) (f := .int) (evi_list sl) (by omega) (fun a _ b _ e => e) fun i x H1 _ s1 dx => evd_intC (evd_v 1 rfl dx)) H (Same.refl _) _ fun c xs H1 hc s1 e1 d1 => ?_
    refine ⟨by rw [sizeLine_eq]; simp, fun a ha => ?_⟩
    have ne : c ≠ a := fun e => by rw [← e, e1] at ha; cases ha
    have s2 := same_new (o := .lst [.ref c, .int 0, .int 40507]) ha
    exact q a c _ (s1.free ha) (s1.trans s2) ⟨ns, 0, 40507, upd_same, by rw [upd_ne ne, e1, d1.of_ints], ne⟩
end
end Kw

set_option maxRecDepth 100000
set_option maxHeartbeats 1000000
/-! _law_below, _law_alike_growth -/
namespace Kw
open PySem PySem.Spec PyProof.Rows L2 KD Mx
theorem exm_of {K : PySem.W.Frag} {mg : Str → Option Value} {x : Str} (X : ExAt K mg x) {cls : Value} {b : Bool} (h : PySem.W.subIn K cls (.ref X.C) = some b) : PySem.W.exmOne K cls (.ref X.C) = some b := by
  have e1 : (PySem.W.subIn K (.ref X.C) (.type "BaseException") == some true) = true := by rw [X.sB] <;> rfl
  have e2 : ((PySem.W.clsIn K X.C).isSome && PySem.W.typeIn K (.ref X.C) == some (.type "type")) = true := by
    have := X.cl
    unfold PySem.W.isClsIn at this
    rw [this, X.ty] <;> rfl
  show (if (PySem.W.subIn K (.ref X.C) (.type "BaseException") == some true) = true then (if ((PySem.W.clsIn K X.C).isSome && PySem.W.typeIn K (.ref X.C) == some (.type "type")) = true then PySem.W.subIn K cls (.ref X.C) else none) else none) = some b
  rw [if_pos e1, if_pos e2]
  exact h
section
variable {P : Program} {w : World} {K : PySem.W.Frag} {mg : Str → Option Value} {base : Heap}
def spBelowL (K : PySem.W.Frag) : Sp := fun vs H Q _ => ∃ (lt : List Str) (M N : Mach) (I J : Mat → Mat → Prop) (fv sv : V), vs = [fv, sv] ∧
  Dq K H fv (machD lt M) ∧ Dq K H sv (machD lt N) ∧ MOk lt M ∧ MOk lt N ∧ Clo lt.length M N I J ∧ (∀ X Y, I X Y → ¬ Against M N X Y) ∧ ∀ H', Q (.bl true) H'
theorem ok_l_below (T : Txt K mg) : FnOk P w K mg base CX0 11 T.A_l_below.f T.A_l_below.d ["first", "second"] (spBelowL K) := by
  refine T.A_l_below.F.ok sc_l_below (fun vs H Q E h => ?_) (fun cdv A outer s H vs Q E hr h => ?_)
  · obtain ⟨_, _, _, _, _, _, _, rfl, _⟩ := h; rfl
  · obtain ⟨lt, M, N, I, J, fv, sv, rfl, h1, h2, o1, o2, k, no, q⟩ := h
    refine ⟨_, (pss_cons (ps_set (i := 2) sc_l_below.nd rfl (.inl rfl) pe_bl)
      (pss_cons (ps_try_many rfl rfl takes_none5 (fun W pn xe tk hp => (pss_one (ps_set (i := 2) sc_l_below.nd rfl (.inl rfl) (pe_callS (E := WE W) (ok_is_below T) (hr.mono (by decide)) (by rfl) T.A_is_below.g T.A_is_below.F.kp T.A_is_below.b (fun σ => passAt tk σ) (pa_cons (pv 0) (pa_cons (pv 1) pa_nil))))))
        (.cons (x := "TooGreat") ⟨by rfl, by decide, .inl T.X_TooGreat.g⟩ (fun a oe cls d pn hz hv => pss_one (ps_set (i := 2) sc_l_below.nd rfl (.inl rfl) pe_bl)) .nil))
      (pss_one (ps_ret (pv 2))))), ?_⟩
    refine evq_setD (K := K) evd_bl fun v H1 s1 p1 => ?_
    cases p1
    exact ⟨_, rfl, _, rfl, lt, M, N, I, J, fv, sv, rfl, h1.mono s1, h2.mono s1, o1, o2, k, no, fun H2 s2 => ⟨_, rfl, q H2⟩, fun H2 => ⟨true, exm_of T.X_TooGreat T.e_TooGreat_TooGreat, fun _ a ha => ⟨_, rfl, q H2⟩, fun z => nomatch z⟩⟩
def spAlikeL (K : PySem.W.Frag) : Sp := fun vs H Q _ => ∃ (lt : List Str) (M N : Mach) (I J : Mat → Mat → Prop) (fv sv : V), vs = [fv, sv] ∧
  Dq K H fv (machD lt M) ∧ Dq K H sv (machD lt N) ∧ MOk lt M ∧ MOk lt N ∧ Clo lt.length M N I J ∧ (∀ X Y, I X Y → ¬ Against M N X Y ∧ ¬ Against N M Y X) ∧ ∀ H', Q (.bl true) H'
theorem ok_l_alike_growth (T : Txt K mg) : FnOk P w K mg base CX0 11 T.A_l_alike_growth.f T.A_l_alike_growth.d ["first", "second"] (spAlikeL K) := by
  refine T.A_l_alike_growth.F.ok sc_l_alike_growth (fun vs H Q E h => ?_) (fun cdv A outer s H vs Q E hr h => ?_)
  · obtain ⟨_, _, _, _, _, _, _, rfl, _⟩ := h; rfl
  · obtain ⟨lt, M, N, I, J, fv, sv, rfl, h1, h2, o1, o2, k, no, q⟩ := h
    refine ⟨_, (pss_cons (ps_set (i := 2) sc_l_alike_growth.nd rfl (.inl rfl) pe_bl)
      (pss_cons (ps_try_many rfl rfl takes_none5 (fun W pn xe tk hp => (pss_one (ps_set (i := 2) sc_l_alike_growth.nd rfl (.inl rfl) (pe_callS (E := WE W) (ok_grow_alike T) (hr.mono (by decide)) (by rfl) T.A_grow_alike.g T.A_grow_alike.F.kp T.A_grow_alike.b (fun σ => passAt tk σ) (pa_cons (pv 0) (pa_cons (pv 1) pa_nil))))))
        (.cons (x := "TooGreat") ⟨by rfl, by decide, .inl T.X_TooGreat.g⟩ (fun a oe cls d pn hz hv => pss_one (ps_set (i := 2) sc_l_alike_growth.nd rfl (.inl rfl) pe_bl)) .nil))
      (pss_one (ps_ret (pv 2))))), ?_⟩
    refine evq_setD (K := K) evd_bl fun v H1 s1 p1 => ?_
    cases p1
    exact ⟨_, rfl, _, rfl, lt, M, N, I, J, fv, sv, rfl, h1.mono s1, h2.mono s1, o1, o2, k, no, fun H2 s2 => ⟨_, rfl, q H2⟩, fun H2 => ⟨true, exm_of T.X_TooGreat T.e_TooGreat_TooGreat, fun _ a ha => ⟨_, rfl, q H2⟩, fun z => nomatch z⟩⟩
/-! ### _law_plain_pairs -/
/-- a pair of machines of which the first is below the second -/
def Below (lt : List Str) (d : PyData) : Prop := ∃ M N I J, d = .tuple [machD lt M, machD lt N] ∧ MOk lt M ∧ MOk lt N ∧ Clo lt.length M N I J ∧ ∀ X Y, I X Y → ¬ Against M N X Y
theorem below_sim {lt : List Str} {f : Nat → Nat} {M N : Mach} (s : Sim f M N) (a : MOk lt M) (b : MOk lt N) : Below lt (.tuple [machD lt M, machD lt N]) := ⟨M, N, _, _, rfl, a, b, s.clo a.ok b.ok, fun X Y h => s.free b.ok h⟩
theorem below_rep {lt : List Str} {M N : Mach} (s : Rep M N) (a : MOk lt M) (b : MOk lt N) : Below lt (.tuple [machD lt M, machD lt N]) := ⟨M, N, _, _, rfl, a, b, s.clo a.ok b.ok, fun X Y h => s.free b.ok h⟩
end
end Kw

set_option maxRecDepth 100000
set_option maxHeartbeats 1000000
/-! comprehensions that draw -/
namespace Kw
open PySem PySem.Spec PyProof.Rows L2 KD Mx
section
variable {K : PySem.W.Frag} {H : Hp} {σ : L2.St} {te : TE} {tt : TT} {g : TG} {wi : TI} {ds : List PyData} {vs : List Nat} {a c : Addr} {Q : VK} {E : XK}
theorem call_draw {many i : Nat} (h0 : σ[i]? = some (some (.ref a))) (hw : Well H a c) (h : EvD K te σ H (.int (many : Nat))) (m0 : 0 < many) (m1 : many ≤ 1000) (q : ∀ (n : Nat) c' H', n < many → Dr a c H c' H' → Q (.int (n : Nat)) H') :
    tCall spDraw [] E (tCons (tVar i) (tCons te tNil)) σ H Q := ⟨.ref a, h0, h.use _ fun v H1 s1 p1 => by
  cases p1
  exact ⟨a, c, many, rfl, hw.mono s1, m0, m1, fun n c' H' hn d => q n c' H' hn ((Dr.same hw s1).trans d)⟩⟩
theorem lc_well (hs : EvI Kp K wi σ H ds) (hl : ds.length ≤ 100000) (hw : Well H a c) (A : Nat → List V → Hp → Prop) (hA : ∀ i acc H1 H2, A i acc H1 → Kp H1 H2 → A i acc H2) (A0 : ∀ H1, A 0 [] H1)
    (step : ∀ i d acc x c1 H1, ds[i]? = some d → Dr a c H c1 H1 → Dq K H1 x d → A i acc H1 → acc.length ≤ i → ∀ (R : V → Hp → Prop) (R' : Hp → Prop), (∀ y c2 H2, Dr a c1 H1 c2 H2 → A (i + 1) (acc ++ [y]) H2 → R y H2) → (∀ c2 H2, Dr a c1 H1 c2 H2 → A (i + 1) acc H2 → R' H2) →
      g x (wipe σ vs) H1 fun σ2 H3 => wipe σ2 vs = wipe σ vs ∧ tt σ2 H3 fun b H4 => if b = true then te σ2 H4 fun y H5 => R y H5 else R' H4)
    (fin : ∀ D acc c1 H1, H D = none → Dr a c H c1 H1 → H1 D = some (.lst acc) → A ds.length acc H1 → acc.length ≤ ds.length → Q (.ref D) H1) : tLc wi g tt te vs σ H Q := by
  refine hs H (Same.refl _) _ fun J H2 s2 it => fun D hD => ?_
  have hw2 := hw.mono s2
  have hD0 := s2.free hD
  have Da : D ≠ a := fun e => by obtain ⟨xs, w⟩ := hw2.lst; rw [← e, hD] at w; cases w
  have Dc : D ≠ c := fun e => by obtain ⟨xs, _, _, w⟩ := hw2; rw [← e] at w; have := w.tc; rw [hD] at this; cases this
  have n2 := same_new (o := .lst []) hD
  refine ⟨fun k m H' => m = ds.length - k ∧ k ≤ ds.length ∧ ∃ c1 acc, Dr a c H c1 H' ∧ c1 ≠ D ∧ Kp H2 H' ∧ acc.length ≤ k ∧ H' D = some (.lst acc) ∧ A k acc H', ⟨ds.length, by simp, Nat.zero_le _, c, [], Dr.same hw (s2.trans n2), Ne.symm Dc, .of n2, Nat.le_refl _, upd_same, A0 _⟩, ?_⟩
  rintro k m H' ⟨rfl, hk, c1, acc, dr, nc, kp, la, eD, hAk⟩
  by_cases lt : k < ds.length
  · have e : ds[k]? = some ds[k] := List.getElem?_eq_getElem lt
    refine .inr ⟨it.go k _ H' e kp, fun H'' => k + 1 ≤ ds.length ∧ ∃ c1 acc, Dr a c H c1 H'' ∧ c1 ≠ D ∧ Kp H2 H'' ∧ acc.length ≤ k + 1 ∧ H'' D = some (.lst acc) ∧ A (k + 1) acc H'', fun H'' ⟨x, y⟩ => ⟨ds.length - (k + 1), by omega, rfl, x, y⟩, fun x H'' y => ?_⟩
    obtain ⟨s3, dx⟩ := it.yld k _ x H' H'' e kp y
    have d3 : Dr a c1 H' c1 H'' := Dr.same dr.well s3
    have eD3 := s3 _ _ eD
    have nxt : ∀ {c2 H3}, Dr a c1 H'' c2 H3 → c2 ≠ D ∧ H3 D = some (.lst acc) := fun {c2 H3} d => by
      refine ⟨fun z => ?_, d.fr _ _ Da eD3⟩
      rcases d.new with w | w
      · exact nc (w ▸ z)
      · rw [z, eD3] at w; cases w
    refine step k ds[k] acc x c1 H'' e (dr.trans d3) dx (hA _ _ _ _ hAk (.of s3)) la _ _ (fun y c2 H3 d hA3 => ?_) fun c2 H3 d hA3 => ?_
    · obtain ⟨nc2, eD4⟩ := nxt d
      refine ⟨acc, eD4, len100 (by omega), lt, c2, acc ++ [y], ⟨((dr.trans d3).trans d).fr.mut hD0, ((dr.trans d3).trans d).new, d.well.put Da (Ne.symm nc2)⟩, nc2, ((kp.trans (.of s3)).trans (d.kp d3.well)).trans (.updL eD4), by simp; omega, upd_same, hA _ _ _ _ hA3 (.updL eD4)⟩
    · obtain ⟨nc2, eD4⟩ := nxt d
      exact ⟨lt, c2, acc, (dr.trans d3).trans d, nc2, (kp.trans (.of s3)).trans (d.kp d3.well), by omega, eD4, hA3⟩
  · have hk' : k = ds.length := by omega
    subst hk'
    exact .inl ⟨it.stop H' kp, fin D acc c1 H' hD0 dr eD hAk la⟩
/-- [p for p in range(n) if draw == 0] -/
theorem lc_some {n many i wv : Nat} (hn : EvD K te σ H (.int (n : Nat))) (n1 : n ≤ 100000) (hw : Well H a c) (m0 : 0 < many) (m1 : many ≤ 1000)
    (h0 : ∀ x : V, ((wipe σ [i]).set i (some x))[wv]? = some (some (.ref a))) (hi : ∀ x : V, ((wipe σ [i]).set i (some x))[i]? = some (some x)) (hww : ∀ x : V, wipe ((wipe σ [i]).set i (some x)) [i] = wipe σ [i])
    (fin : ∀ D (l : List Nat) c1 H1, H D = none → Dr a c H c1 H1 → H1 D = some (.lst (natsV l)) → l.Sublist (List.range n) → Q (.ref D) H1) :
    tLc (iRng1 (tCons te tNil)) (gName i) (tTest (tOp rEq (tCall spDraw [] E (tCons (tVar wv) (tCons (tC (.int (many : Nat))) tNil))) (tC (.int 0)))) (tVar i) [i] σ H Q := by
  refine lc_well (K := K) (ds := nats n) (evi_range1 hn n1) (by simp [nats]; omega) hw (fun k acc _ => ∃ l : List Nat, acc = natsV l ∧ l.Sublist (List.range k)) (fun _ _ _ _ h _ => h) (fun _ => ⟨[], rfl, .slnil⟩) (fun k d acc x c1 H1 hd dr dx hA _ R R' r r' => ?_) fun D acc c1 H1 hD dr e hA _ => ?_
  · obtain ⟨l, rfl, sl⟩ := hA
    have hk : k < n := by
      have := (List.getElem?_eq_some_iff.mp hd).1
      simpa [nats] using this
    have ed : d = .int (k : Nat) := by
      rw [nats, range_at hk] at hd
      exact (Option.some.inj hd).symm
    subst ed
    cases dx
    refine ⟨hww _, call_draw (K := K) (many := many) (h0 _) dr.well evd_int m0 m1 fun g c2 H2 _ d2 => ⟨rfl, _, rfl, ?_⟩⟩
    show (if decide (V.int (g : Nat) = V.int 0) = true then tVar i ((wipe σ [i]).set i (some (V.int (k : Nat)))) H2 fun y H5 => R y H5 else R' H2)
    by_cases hg : decide (V.int (g : Nat) = V.int 0) = true
    · rw [if_pos hg]
      refine ⟨_, hi _, r _ c2 H2 d2 ⟨l ++ [k], ?_, ?_⟩⟩
      · unfold natsV; rw [List.map_append]; rfl
      · rw [List.range_succ]; exact sl.append (List.Sublist.refl _)
    · rw [if_neg hg]
      refine r' c2 H2 d2 ⟨l, rfl, ?_⟩
      rw [List.range_succ]
      exact sl.trans (List.sublist_append_left ..)
  · obtain ⟨l, rfl, sl⟩ := hA
    exact fin D l c1 H1 hD dr e (by simpa [nats] using sl)
end
end Kw

set_option maxRecDepth 100000
set_option maxHeartbeats 1000000
/-! _law_machine -/
namespace Kw
open PySem PySem.Spec PyProof.Rows L2 KD Mx
def keyM (m : Mx.Move) : Nat × Nat × Nat := (m.1, m.2.1, m.2.2.2)
def preQ (n i j : Nat) (l : Nat) : List (Nat × Nat × Nat) := (List.range l).map fun q => (i, j, q)
def preA (n i : Nat) (j : Nat) : List (Nat × Nat × Nat) := (List.range j).flatMap fun a => preQ n i a n
def preP (n k : Nat) (i : Nat) : List (Nat × Nat × Nat) := (List.range i).flatMap fun p => preA n p k
theorem preQ_s (n i j l : Nat) : preQ n i j (l + 1) = preQ n i j l ++ [(i, j, l)] := by unfold preQ; rw [List.range_succ, List.map_append]; rfl
theorem preA_s (n i j : Nat) : preA n i (j + 1) = preA n i j ++ preQ n i j n := by unfold preA; rw [List.range_succ, List.flatMap_append]; simp
theorem preP_s (n k i : Nat) : preP n k (i + 1) = preP n k i ++ preA n i k := by unfold preP; rw [List.range_succ, List.flatMap_append]; simp
/-- the moves so far -/
structure Core (a c : Addr) (H : Hp) (F : Addr) (K : PySem.W.Frag) (res : Bool) (pre : List (Nat × Nat × Nat)) (c1 : Addr) (mv : List Mx.Move) (H' : Hp) : Prop where
  dr : Dr a c H c1 H'
  nc : c1 ≠ F
  at_ : ∃ acc, H' F = some (.lst acc) ∧ DqAll K H' acc (mv.map mvD)
  sub : (mv.map keyM).Sublist pre
  cost : ∀ m ∈ mv, -1 ≤ m.2.2.1 ∧ m.2.2.1 ≤ 5 ∧ (res = false → 0 ≤ m.2.2.1)
section
variable {K : PySem.W.Frag} {a c F c1 c2 : Addr} {H H1 H2 : Hp} {res : Bool} {pre : List (Nat × Nat × Nat)} {mv : List Mx.Move} {σ : L2.St} {te tb : TE} {D : Ends} {t1 : TS} {E : XK} {Q : VK}
theorem Core.draw (h : Core a c H F K res pre c1 mv H1) (nF : F ≠ a) (d : Dr a c1 H1 c2 H2) : Core a c H F K res pre c2 mv H2 := by
  obtain ⟨acc, e, da⟩ := h.at_
  refine ⟨h.dr.trans d, fun z => ?_, ⟨acc, d.fr _ _ nF e, da.kp (d.kp h.dr.well)⟩, h.sub, h.cost⟩
  rcases d.new with w | w
  · exact h.nc (w ▸ z)
  · rw [z, e] at w; cases w
theorem Core.wide (h : Core a c H F K res pre c1 mv H1) {p2 : List (Nat × Nat × Nat)} (s : pre.Sublist p2) : Core a c H F K res p2 c1 mv H1 := ⟨h.dr, h.nc, h.at_, h.sub.trans s, h.cost⟩
theorem Core.push (h : Core a c H F K res pre c1 mv H1) (hF : H F = none) (nF : F ≠ a) {m : Mx.Move} {v : V} {acc : List V} (e : H1 F = some (.lst acc)) (dv : Dq K H1 v (mvD m)) (hc : -1 ≤ m.2.2.1 ∧ m.2.2.1 ≤ 5 ∧ (res = false → 0 ≤ m.2.2.1)) : Core a c H F K res (pre ++ [keyM m]) c1 (mv ++ [m]) (upd H1 F (.lst (acc ++ [v]))) := by
  obtain ⟨acc', e', da⟩ := h.at_
  rw [e] at e'
  cases e'
  refine ⟨⟨h.dr.fr.mut hF, h.dr.new, h.dr.well.put nF (Ne.symm h.nc)⟩, h.nc, ⟨_, upd_same, ?_⟩, ?_, fun x hx => ?_⟩
  · rw [List.map_append]
    exact (da.kp (.updL e)).snoc (dv.kp (.updL e))
  · rw [List.map_append]
    exact h.sub.append (List.Sublist.refl _)
  · rcases List.mem_append.mp hx with hx | hx
    · exact h.cost x hx
    · simp at hx
      subst hx
      exact hc
theorem draw1 {many i : Nat} (h0 : σ[i]? = some (some (.ref a))) (hw : Well H a c) (h : EvD K te σ H (.int (many : Nat))) (m0 : 0 < many) (m1 : many ≤ 1000) (q : ∀ (n : Nat) c' H', n < many → Dr a c H c' H' → Q (.int ((n + 1 : Nat) : Int)) H') :
    tOp (rI0 fun i j => .int (i + j)) (tC (.int 1)) (tCall spDraw [] E (tCons (tVar i) (tCons te tNil))) σ H Q := call_draw (K := K) h0 hw h m0 m1 fun n c' H' hn d => ⟨1, n, rfl, rfl, by have := q n c' H' hn d; rwa [show ((n + 1 : Nat) : Int) = 1 + (n : Int) by omega] at this⟩
theorem ifS_draw {many i : Nat} (h0 : σ[i]? = some (some (.ref a))) (hw : Well H a c) (h : EvD K te σ H (.int (many : Nat))) (m0 : 0 < many) (m1 : many ≤ 1000) (q1 : ∀ c' H', Dr a c H c' H' → t1 D σ H') (q2 : ∀ c' H', Dr a c H c' H' → D.nx σ H') :
    tIfS (tTest (tOp rEq (tCall spDraw [] E (tCons (tVar i) (tCons te tNil))) (tC (.int 0)))) t1 tNext D σ H := call_draw (K := K) h0 hw h m0 m1 fun n c' H' hn d => ⟨rfl, _, rfl, by
  show (if decide (V.int (n : Nat) = V.int 0) = true then t1 D σ H' else D.nx σ H')
  by_cases hg : decide (V.int (n : Nat) = V.int 0) = true
  · rw [if_pos hg]; exact q1 c' H' d
  · rw [if_neg hg]; exact q2 c' H' d⟩
theorem ix_draw {many i : Nat} {ns : List Int} (L : EvL K tb σ H (ns.map .int)) (h0 : σ[i]? = some (some (.ref a))) (hw : Well H a c) (h : EvD K te σ H (.int (many : Nat))) (m0 : 0 < many) (m1 : many ≤ 1000) (ml : many ≤ ns.length) (q : ∀ (n : Nat) v c' H', n < many → ns[n]? = some v → Dr a c H c' H' → Q (.int v) H') :
    tOp (rIxL K) tb (tCall spDraw [] E (tCons (tVar i) (tCons te tNil))) σ H Q := L H (Same.refl _) _ fun p xs H1 hp s1 e1 d1 => call_draw (K := K) h0 (hw.mono s1) (h.mono s1) m0 m1 fun n c' H2 hn d2 => by
  have ne : p ≠ a := fun e => by obtain ⟨ws, w⟩ := hw.lst; rw [e, w] at hp; cases hp
  have hl : n < ns.length := by omega
  have e2 := d2.fr _ _ ne e1
  rw [d1.of_ints] at e2
  exact ⟨p, _, n, .int ns[n], rfl, rfl, .inl (.inl e2), atI_nat (by rw [List.getElem?_map, List.getElem?_eq_getElem hl]; rfl), q n _ c' H2 hn (List.getElem?_eq_getElem hl) ((Dr.same hw s1).trans d2)⟩
theorem app_eff {i : Nat} {xs : List V} (hp : H F = some (.lst xs)) (hv : σ[i]? = some (some (.ref F))) (h : te σ H fun v H1 => rAppend (.ref F) [v] H1 fun _ H2 => D.nx σ H2) : tDrop (tBM K "list" rAppend (tVar i) (tCons te tNil)) D σ H := ⟨_, hv, .inl ⟨rfl, _, .inl (.inl hp)⟩, h⟩
theorem tup4_eff {i j k : Nat} {x y : V} (h1 : σ[i]? = some (some x)) (h2 : σ[j]? = some (some y)) (h : te σ H fun z H1 => ∃ w, σ[k]? = some (some w) ∧ ([x, y, z, w].length ≤ sizeLine ∧ ∀ p, H1 p = none → Q (.ref p) (upd H1 p (.tup [x, y, z, w])))) : tTup (tCons (tVar i) (tCons (tVar j) (tCons te (tCons (tVar k) tNil)))) σ H Q := ⟨x, h1, y, h2, h⟩
end
/-- what a drawn machine is -/
theorem per_keys : ∀ n k : Nat, n ≤ 2 → k ≤ 2 → (preP n k n).length ≤ 8 ∧ (preP n k n).Nodup ∧ (∀ x ∈ preP n k n, x.1 < n ∧ x.2.1 < k ∧ x.2.2 < n) ∧ ((preP n k n).filter fun x => decide (x.2.1 = 0)).length ≤ 4 ∧ ((preP n k n).filter fun x => decide (x.2.1 = 1)).length ≤ 4 := by
  intro n k hn hk
  have h1 : n = 0 ∨ n = 1 ∨ n = 2 := by omega
  have h2 : k = 0 ∨ k = 1 ∨ k = 2 := by omega
  rcases h1 with rfl | rfl | rfl <;> rcases h2 with rfl | rfl | rfl <;> decide
theorem small_of {lt : List Str} {n : Nat} {st en : List Nat} {mv mv' : List Mx.Move} (L : LetOk lt) (k2 : lt.length ≤ 2) (n1 : 1 ≤ n) (n2 : n ≤ 2) (hs : st.Sublist (List.range n)) (he : en.Sublist (List.range n)) (sub : (mv.map keyM).Sublist (preP n lt.length n)) (cost : ∀ m ∈ mv, -1 ≤ m.2.2.1 ∧ m.2.2.1 ≤ 5)
    (pm : mv'.Perm mv) (pw : (mv'.map moveL).Pairwise (· ≤ ·)) : Small lt ⟨n, st, en, mv'⟩ := by
  obtain ⟨p1, p2, p3, p4, p5⟩ := per_keys n lt.length n2 k2
  have sl : st.length ≤ n := by have := hs.length_le; rwa [List.length_range] at this
  have el : en.length ≤ n := by have := he.length_le; rwa [List.length_range] at this
  have ml : mv'.length ≤ 8 := by have := sub.length_le; rw [List.length_map] at this; rw [pm.length_eq]; omega
  have inr : ∀ {l : List Nat}, l.Sublist (List.range n) → ∀ p ∈ l, p < n := fun h p hp => List.mem_range.mp (h.subset hp)
  have asc : ∀ {l : List Nat}, l.Sublist (List.range n) → (zs l).Pairwise (· < ·) := fun h => by
    unfold zs
    rw [List.pairwise_map]
    exact (List.Pairwise.sublist h List.pairwise_lt_range).imp fun h => by omega
  have kn : (mv.map keyM).Nodup := sub.nodup p2
  have mn : mv.Nodup := (List.pairwise_map.mp kn).imp fun h e => h (by rw [e])
  have mn' : mv'.Nodup := pm.nodup_iff.mpr mn
  have mm : ∀ m ∈ mv', MvOk lt.length n m := fun m hm => by
    have hm := pm.mem_iff.mp hm
    have := p3 _ (sub.subset (List.mem_map.mpr ⟨m, hm, rfl⟩))
    have c := cost m hm
    exact ⟨this.1, this.2.1, ⟨c.1, by omega⟩, this.2.2⟩
  refine ⟨⟨L, ⟨n1, inr hs, inr he, fun p a c q h => mm _ h⟩, by show n ≤ 12; omega, asc hs, asc he, ?_, by show st.length ≤ 100; omega, by show en.length ≤ 100; omega, by show mv'.length ≤ 5000; omega⟩, n2, ⟨by show st.length ≤ 4; omega, by show en.length ≤ 4; omega, ml⟩, ⟨fun a => ?_, fun m hm => ?_⟩⟩
  · show (mv'.map moveL).Pairwise (· < ·)
    rw [List.pairwise_map] at pw ⊢
    exact (pw.and mn').imp fun h => lt_of h.1 fun e => h.2 (moveL_inj e)
  · have e1 : (mv'.filter fun x => decide (x.2.1 = a)).length = (mv.filter fun x => decide (x.2.1 = a)).length := (pm.filter _).length_eq
    have e2 : (mv.filter fun x => decide (x.2.1 = a)).length = ((mv.map keyM).filter fun x => decide (x.2.1 = a)).length := by
      rw [List.filter_map, List.length_map]; rfl
    have e3 : ((mv.map keyM).filter fun x => decide (x.2.1 = a)).length ≤ ((preP n lt.length n).filter fun x => decide (x.2.1 = a)).length := (sub.filter _).length_le
    show (mv'.filter fun x => decide (x.2.1 = a)).length ≤ 4
    rw [e1, e2]
    by_cases h0 : a = 0
    · subst h0; omega
    by_cases h1 : a = 1
    · subst h1; omega
    · have : ((preP n lt.length n).filter fun x => decide (x.2.1 = a)) = [] := by
        rw [List.filter_eq_nil_iff]
        intro x hx
        have := (p3 x hx).2.1
        simp
        omega
      rw [this] at e3
      exact Nat.le_trans e3 (by decide)
  · have := cost m (pm.mem_iff.mp hm)
    omega
end Kw

set_option maxRecDepth 100000
set_option maxHeartbeats 1000000
/-! the walk of _law_machine -/
namespace Kw
open PySem PySem.Spec PyProof.Rows L2 KD Mx
theorem preA_len (n i j : Nat) : (preA n i j).length ≤ j * n := by
  have := flat_len (f := fun a => preQ n i a n) (b := n) (l := List.range j) fun a _ => by simp [preQ]
  rwa [List.length_range] at this
theorem preP_len (n k i : Nat) : (preP n k i).length ≤ i * (k * n) := by
  have := flat_len (f := fun p => preA n p k) (b := k * n) (l := List.range i) fun p _ => preA_len n p k
  rwa [List.length_range] at this
section
variable {P : Program} {w : World} {K : PySem.W.Frag} {mg : Str → Option Value} {base : Heap}
def spLawM (K : PySem.W.Frag) : Sp := fun vs H Q _ => ∃ (a c : Addr) (x : V) (lt : List Str) (res : Bool), vs = [.ref a, x, .int 2, .bl res] ∧ Well H a c ∧ Dq K H x (letD lt) ∧ LetOk lt ∧ lt.length ≤ 2 ∧
  ∀ M v c' H', Dr a c H c' H' → Dq K H' v (machD lt M) → Small lt M → (res = false → PlainM M) → Q v H'
theorem ok_l_machine (T : Txt K mg) : FnOk P w K mg base CX0 2 T.A_l_machine.f T.A_l_machine.d ["well", "letters", "most", "resets"] (spLawM K) := by
  refine T.A_l_machine.F.ok sc_l_machine (fun vs H Q E h => ?_) (fun cdv A outer s H vs Q E hr h => ?_)
  · obtain ⟨_, _, _, _, _, rfl, _⟩ := h; rfl
  · obtain ⟨a, c, x, lt, res, rfl, hw, hx, L, k2, q⟩ := h
    refine ⟨_, ((pss_cons (ps_set (i := 4) sc_l_machine.nd rfl (.inl rfl) (pe_op op_add pe_int (pe_call (ok_l_draw T) (hr.mono (by decide)) (by rfl) T.A_l_draw.g T.A_l_draw.F.kp T.A_l_draw.b .nil pass0 (pa_cons (pv 0) (pa_cons (pv 2) pa_nil)))))
  (pss_cons (ps_set (i := 5) sc_l_machine.nd rfl (.inl rfl) (pe_op op_add pe_int (pe_call (ok_l_draw T) (hr.mono (by decide)) (by rfl) T.A_l_draw.g T.A_l_draw.F.kp T.A_l_draw.b .nil pass0 (pa_cons (pv 0) (pa_cons pe_int pa_nil)))))
  (pss_cons (ps_set (i := 6) sc_l_machine.nd rfl (.inl rfl) (pe_lst pa_nil))
  (pss_cons (ps_for PassesOwn.never rfl (pi_range1 rfl T.n_range (pa_cons (pv 4) pa_nil)) (pg_name (i := 7) sc_l_machine.nd rfl (.inl rfl))
    (pss_one (ps_for PassesOwn.never rfl (pi_range1 rfl T.n_range (pa_cons (pe_callB (kLen (K := K)) (by rfl) T.n_len (by decide +kernel) (pa_cons (pv 1) pa_nil)) pa_nil)) (pg_name (i := 8) sc_l_machine.nd rfl (.inl rfl))
    (pss_one (ps_for PassesOwn.never rfl (pi_range1 rfl T.n_range (pa_cons (pv 4) pa_nil)) (pg_name (i := 9) sc_l_machine.nd rfl (.inl rfl))
    (pss_one (ps_if (pt_cmpR op_eq (pe_call (ok_l_draw T) (hr.mono (by decide)) (by rfl) T.A_l_draw.g T.A_l_draw.F.kp T.A_l_draw.b .nil pass0 (pa_cons (pv 0) (pa_cons (pe_op op_add (pv 5) pe_int) pa_nil))) pe_int (nomark _)) (pss_one (ps_expr (pe_bm PySem.F.plainAttrs_list PySem.F.slot_list_append PySem.F.type_list_append mt_append (pv 6) (pa_cons (pe_tup (pa_cons (pv 7) (pa_cons (pv 8) (pa_cons (pe_ix (kIxL (K := K)) (pe_lst (pa_cons pe_int (pa_cons pe_int (pa_cons pe_int (pa_cons pe_int (pa_cons pe_int (pa_cons (pe_op op_sub pe_int pe_int) pa_nil))))))) (pe_call (ok_l_draw T) (hr.mono (by decide)) (by rfl) T.A_l_draw.g T.A_l_draw.F.kp T.A_l_draw.b .nil pass0 (pa_cons (pv 0) (pa_cons (pe_ifExp (pt_val (pv 3)) pe_int pe_int) pa_nil))) (fun _ _ => rfl)) (pa_cons (pv 9) pa_nil))))) pa_nil)))) pss_nil)))))))
  (pss_cons (ps_setLc (i := 10) (own := [("p", 7)]) (g := gName 7) rfl sc_l_machine.nd rfl rfl (sw_true rfl rfl rfl (by decide +kernel)) (pi_range1 rfl T.n_range (pa_cons (pv 4) pa_nil)) (blkOk_by (own := [("p", 7)]) (N := ["well", "letters", "most", "resets", "many", "rare", "moves", "p", "a", "q", "starts", "ends"]) (sc := defScope s_l_machine) (by decide +kernel)) (fun _ _ _ _ _ => (pg_name (i := 7) sc_l_machine.nd rfl (.inl rfl))) (fun _ _ _ _ _ => pts_one (pt_cmpR op_eq (pe_call (ok_l_draw T) (hr.mono (by decide)) (by rfl) T.A_l_draw.g T.A_l_draw.F.kp T.A_l_draw.b .nil pass0 (pa_cons (pv 0) (pa_cons pe_int pa_nil))) pe_int (nomark _))) (fun _ _ _ _ _ => (pv 7)))
  (pss_cons (ps_setLc (i := 11) (own := [("p", 7)]) (g := gName 7) rfl sc_l_machine.nd rfl rfl (sw_true rfl rfl rfl (by decide +kernel)) (pi_range1 rfl T.n_range (pa_cons (pv 4) pa_nil)) (blkOk_by (own := [("p", 7)]) (N := ["well", "letters", "most", "resets", "many", "rare", "moves", "p", "a", "q", "starts", "ends"]) (sc := defScope s_l_machine) (by decide +kernel)) (fun _ _ _ _ _ => (pg_name (i := 7) sc_l_machine.nd rfl (.inl rfl))) (fun _ _ _ _ _ => pts_one (pt_cmpR op_eq (pe_call (ok_l_draw T) (hr.mono (by decide)) (by rfl) T.A_l_draw.g T.A_l_draw.F.kp T.A_l_draw.b .nil pass0 (pa_cons (pv 0) (pa_cons pe_int pa_nil))) pe_int (nomark _))) (fun _ _ _ _ _ => (pv 7)))
  (pss_one (ps_ret (pe_tup (pa_cons (pv 1) (pa_cons (pv 4) (pa_cons (pe_callTy (kTup (K := K)) (by rfl) T.n_tuple (by decide +kernel) (pa_cons (pv 10) pa_nil)) (pa_cons (pe_callTy (kTup (K := K)) (by rfl) T.n_tuple (by decide +kernel) (pa_cons (pv 11) pa_nil)) (pa_cons (pe_callTy (kTup (K := K)) (by rfl) T.n_tuple (by decide +kernel) (pa_cons (pe_callB (kSortLT (K := K) (hu64 hr)) (by rfl) T.n_sorted (by decide +kernel) (pa_cons (pv 6) pa_nil)) pa_nil)) pa_nil))))))))))))))), ?_⟩
    have costs : ∀ (g : Nat) (v : Int), g < (if res then 6 else 5) → ([0, 1, 1, 2, 5, -1] : List Int)[g]? = some v → -1 ≤ v ∧ v ≤ 5 ∧ (res = false → 0 ≤ v) := fun g v hg e => by
      have h6 : g = 0 ∨ g = 1 ∨ g = 2 ∨ g = 3 ∨ g = 4 ∨ (g = 5 ∧ res = true) := by
        cases res <;> simp at hg ⊢ <;> omega
      rcases h6 with rfl | rfl | rfl | rfl | rfl | ⟨rfl, rr⟩ <;> simp at e <;> subst e
      · exact ⟨by decide, by decide, fun _ => by decide⟩
      · exact ⟨by decide, by decide, fun _ => by decide⟩
      · exact ⟨by decide, by decide, fun _ => by decide⟩
      · exact ⟨by decide, by decide, fun _ => by decide⟩
      · exact ⟨by decide, by decide, fun _ => by decide⟩
      · exact ⟨by decide, by decide, fun z => by rw [rr] at z; cases z⟩
    refine seq_asg ?_
    refine draw1 (K := K) (many := 2) rfl hw (evd_v 2 rfl (.int 2)) (by decide) (by decide) fun g1 c1 H1 hg1 r1 => ?_
    refine seq_asg ?_
    refine draw1 (K := K) (many := 3) rfl r1.well evd_int (by decide) (by decide) fun g2 c2 H2 hg2 r2 => ?_
    have r02 := r1.trans r2
    refine evq_setL (K := K) (evl_lst eva_nil (by simp)) fun F x6 H3 hF s3 e3 d3 => ?_
    cases d3
    have r03 := r02.trans (Dr.same r2.well s3)
    have na : F ≠ a := fun e => by obtain ⟨ws, z⟩ := r02.well.lst; rw [e, z] at hF; cases hF
    have hF0 : H F = none := by
      cases e : H F with
      | none => rfl
      | some u => have := r02.fr _ _ na e; rw [hF] at this; cases this
    have nc2 : c2 ≠ F := fun e => by obtain ⟨_, _, _, z⟩ := r02.well; have := z.tc; rw [e, hF] at this; cases this
    have hx3 := hx.kp (r03.kp hw)
    generalize hn : g1 + 1 = n
    generalize hra : g2 + 1 = ra
    have n1 : 1 ≤ n := by omega
    have n2 : n ≤ 2 := by omega
    have ra3 : 1 ≤ ra ∧ ra ≤ 3 := by omega
    have C0 : Core a c H F K res (preP n lt.length 0) c2 [] H3 := ⟨r03, nc2, ⟨[], e3, .nil⟩, List.Sublist.refl _, fun m hm => by simp at hm⟩
    have hxC : ∀ {pre mv c1 H'}, Core a c H F K res pre c1 mv H' → Dq K H' x (letD lt) := fun C => hx.kp (C.dr.kp hw)
    refine evq_forG (K := K) (Rl := Kp) (evi_range1 (n := n) (evd_v 4 rfl (.int _)) (by omega)) (fun Hb i σ' H' => ∃ s7 s8 s9, σ' = [some (.ref a), some x, some (.int 2), some (.bl res), some (.int (n : Nat)), some (.int (ra : Nat)), some (.ref F), s7, s8, s9, none, none] ∧ Kp Hb H' ∧ ∃ c1 mv, Core a c H F K res (preP n lt.length i) c1 mv H')
      (fun Hb i σ' H' _ _ pv => ?_) (fun Hb sb => ⟨_, _, _, rfl, .refl _, c2, [], C0.draw na (Dr.same C0.dr.well sb)⟩) (fun Hb i d σ' H' xv H'' sb hd pv s4 dx => ?_) (fun Hb σ' H' sb pv => ?_)
    · obtain ⟨_, _, _, _, kp, _⟩ := pv
      exact kp
    · obtain ⟨s7, s8, s9, rfl, kp, c1, mv, C⟩ := pv
      have hi : i < n := by
        have := (List.getElem?_eq_some_iff.mp hd).1
        simpa [nats] using this
      rw [nats, range_at hi] at hd
      cases hd
      cases dx
      have C4 := C.draw na (Dr.same C.dr.well s4)
      refine evs_forG (K := K) (Rl := Kp) (evi_range1 (n := lt.length) (evd_is (evd_lenT (evd_v 1 rfl (hxC C4))) (by rw [List.length_map])) (by omega)) (fun Hc j σ' H5 => ∃ s8 s9, σ' = [some (.ref a), some x, some (.int 2), some (.bl res), some (.int (n : Nat)), some (.int (ra : Nat)), some (.ref F), some (.int (i : Nat)), s8, s9, none, none] ∧ Kp Hb H5 ∧ Kp Hc H5 ∧ ∃ c1 mv, Core a c H F K res (preP n lt.length i ++ preA n i j) c1 mv H5)
        (fun Hc j σ' H5 _ _ pv => ?_) (fun Hc sc => ⟨_, _, rfl, kp.trans (.of (s4.trans sc)), .refl _, c1, mv, by have := C4.draw na (Dr.same C4.dr.well sc); simpa [preA] using this⟩) (fun Hc j d σ' H5 xv H6 sc hd pv s5 dx => ?_) (fun Hc σ' H5 sc pv => ?_)
      · obtain ⟨_, _, _, _, kp, _⟩ := pv
        exact kp
      · obtain ⟨s8, s9, rfl, kp1, kp2, c1, mv, C⟩ := pv
        have hj : j < lt.length := by
          have := (List.getElem?_eq_some_iff.mp hd).1
          simpa [nats] using this
        rw [nats, range_at hj] at hd
        cases hd
        cases dx
        have C5 := C.draw na (Dr.same C.dr.well s5)
        refine evs_forG (K := K) (Rl := Kp) (evi_range1 (n := n) (evd_v 4 rfl (.int _)) (by omega)) (fun He l σ' H7 => ∃ s9, σ' = [some (.ref a), some x, some (.int 2), some (.bl res), some (.int (n : Nat)), some (.int (ra : Nat)), some (.ref F), some (.int (i : Nat)), some (.int (j : Nat)), s9, none, none] ∧ Kp Hb H7 ∧ Kp Hc H7 ∧ Kp He H7 ∧ ∃ c1 mv, Core a c H F K res ((preP n lt.length i ++ preA n i j) ++ preQ n i j l) c1 mv H7)
          (fun He l σ' H7 _ _ pv => ?_) (fun He se => ⟨_, rfl, kp1.trans (.of (s5.trans se)), kp2.trans (.of (s5.trans se)), .refl _, c1, mv, by have := C5.draw na (Dr.same C5.dr.well se); simpa [preQ] using this⟩) (fun He l d σ' H7 xv H8 se hd pv s8' dx => ?_) (fun He σ' H7 se pv => ?_)
        · obtain ⟨_, _, _, _, kp, _⟩ := pv
          exact kp
        · obtain ⟨s9, rfl, kp1, kp2, kp3, c1, mv, C⟩ := pv
          have hl : l < n := by
            have := (List.getElem?_eq_some_iff.mp hd).1
            simpa [nats] using this
          rw [nats, range_at hl] at hd
          cases hd
          cases dx
          have d8 := Dr.same C.dr.well s8'
          have C8 := C.draw na d8
          have kp08 := Kp.of s8'
          refine ifS_draw (K := K) (many := ra + 1) rfl C8.dr.well (evd_ar (g := fun i j => i + j) (i := (ra : Nat)) (j := 1) (evd_v 5 rfl (.int _)) evd_int) (by omega) (by omega) (fun c9 H9 d9 => ?_) fun c9 H9 d9 => ?_
          · have C9 := C8.draw na d9
            have kp9 := kp08.trans (d9.kp C8.dr.well)
            obtain ⟨acc, eF, dF⟩ := C9.at_
            refine app_eff eF rfl ?_
            refine tup4_eff rfl rfl ?_
            refine ix_draw (K := K) (a := a) (c := c9) (ns := [0, 1, 1, 2, 5, -1]) (many := if res then 6 else 5) (EvL.is (evl_lst (eva_cons evd_int (eva_cons evd_int (eva_cons evd_int (eva_cons evd_int (eva_cons evd_int (eva_cons (evd_ar (g := fun i j => i - j) (i := 0) (j := 1) evd_int evd_int) eva_nil)))))) (by simp)) rfl) rfl C9.dr.well (evp_if (b := res) (evb_B (K := K) (evd_v 3 rfl (.bl res))) (fun hb => evd_is evd_int (by rw [hb]; rfl)) fun hb => evd_is evd_int (by rw [hb]; rfl)) (by split <;> omega) (by split <;> omega) (by split <;> decide) fun g v c10 H10 hg ev d10 => ?_
            have C10 := C9.draw na d10
            refine ⟨_, rfl, by rw [sizeLine_eq]; simp, fun p hp => ?_⟩
            have s11 := same_new (o := .tup [V.int (i : Nat), .int (j : Nat), .int v, .int (l : Nat)]) hp
            have C11 := C10.draw na (Dr.same C10.dr.well s11)
            obtain ⟨acc2, eF2, dF2⟩ := C11.at_
            have lmv := C11.sub.length_le
            have la := dF2.length
            have dv : Dq K (upd H10 p (.tup [V.int (i : Nat), .int (j : Nat), .int v, .int (l : Nat)])) (.ref p) (mvD (i, j, v, l)) := .tup (.inl (.inl upd_same)) (.cons (.int _) (.cons (.int _) (.cons (.int _) (.one (.int _)))))
            have C12 := C11.push hF0 na (m := (i, j, v, l)) eF2 dv (costs g v hg ev)
            have kp11 := (kp9.trans (d10.kp C9.dr.well)).trans ((Kp.of s11).trans (.updL (ys := acc2 ++ [V.ref p]) eF2))
            have small : acc2.length < sizeLine := by
              rw [List.length_map] at la lmv
              have h1 : (preP n lt.length i).length ≤ i * (lt.length * n) := preP_len n lt.length i
              have h2 : (preA n i j).length ≤ j * n := preA_len n i j
              have h3 : (preQ n i j l).length = l := by simp [preQ]
              rw [List.length_append, List.length_append, h3] at lmv
              have h4 : i * (lt.length * n) ≤ 2 * (2 * 2) := Nat.mul_le_mul (by omega) (Nat.mul_le_mul k2 n2)
              have h5 : j * n ≤ 2 * 2 := Nat.mul_le_mul (by omega) n2
              exact len100 (by omega)
            refine ⟨F, acc2, .ref p, rfl, rfl, eF2, small, _, rfl, kp1.trans kp11, kp2.trans kp11, kp3.trans kp11, c10, mv ++ [(i, j, v, l)], ?_⟩
            rw [preQ_s, ← List.append_assoc]
            exact C12
          · have kp9 := kp08.trans (d9.kp C8.dr.well)
            refine ⟨_, rfl, kp1.trans kp9, kp2.trans kp9, kp3.trans kp9, c9, mv, (C8.draw na d9).wide ?_⟩
            rw [preQ_s, ← List.append_assoc]
            exact List.sublist_append_left ..
        · obtain ⟨s9, rfl, kp1, kp2, kp3, c1, mv, C⟩ := pv
          refine ⟨_, _, rfl, kp1, kp2, c1, mv, ?_⟩
          rw [preA_s, ← List.append_assoc]
          simpa [nats] using C
      · obtain ⟨s8, s9, rfl, kp1, kp2, c1, mv, C⟩ := pv
        refine ⟨_, _, _, rfl, kp1, c1, mv, ?_⟩
        rw [preP_s]
        simpa [nats] using C
    · obtain ⟨s7, s8, s9, rfl, kp, c1, mv, C⟩ := pv
      rw [show (nats n).length = n by simp [nats]] at C
      refine seq_asg ?_
      refine lc_some (K := K) (n := n) (many := 2) (i := 7) (wv := 0) (evd_v 4 rfl (.int _)) (by omega) C.dr.well (by decide) (by decide) (fun _ => rfl) (fun _ => rfl) (fun _ => rfl) fun D10 l10 c4 H4 hD10 d4 e10 sl10 => ?_
      have C4 := C.draw na d4
      have na10 : D10 ≠ a := fun e => by obtain ⟨ws, z⟩ := C.dr.well.lst; rw [e, z] at hD10; cases hD10
      refine seq_asg ?_
      refine lc_some (K := K) (n := n) (many := 2) (i := 7) (wv := 0) (evd_v 4 rfl (.int _)) (by omega) C4.dr.well (by decide) (by decide) (fun _ => rfl) (fun _ => rfl) (fun _ => rfl) fun D11 l11 c5 H5 hD11 d5 e11 sl11 => ?_
      have C5 := C4.draw na d5
      have e10' := d5.fr _ _ na10 e10
      have hx5 := hxC C5
      obtain ⟨acc, eF, dF⟩ := C5.at_
      have lmv := C5.sub.length_le
      obtain ⟨p1, _⟩ := per_keys n lt.length n2 k2
      rw [List.length_map] at lmv
      refine ⟨_, rfl, _, rfl, ?_⟩
      refine (evd_tupleLs (K := K) (.inl (.inl e10')) (dq_nats l10) (evr_v 10 rfl)).run (Same.refl _) fun v3 H6 s6 p3 => ?_
      refine (evd_tupleLs (K := K) (.inl (.inl (s6 _ _ e11))) (dq_nats l11) (evr_v 11 rfl)).run (Same.refl _) fun v4 H7 s7 p4 => ?_
      refine (evp_tsT (K := K) (ks := mv.map moveL) (evM_v rfl (.inl (.inl (s7 _ _ (s6 _ _ eF)))) (by rw [mv_map]; exact (dF.mono s6).mono s7)) (by rw [List.length_map]; omega) fun k hk => ?_).use _ fun v5 H8 r s8 p5 e5 => ?_
      · obtain ⟨m, _, rfl⟩ := List.mem_map.mp hk
        exact fun z => nomatch z
      obtain ⟨ys, rfl, pm, pw⟩ := e5
      have ey : ys = (ys.map unMv).map moveL := by
        rw [List.map_map]
        have : ys.map (moveL ∘ unMv) = ys.map id := List.map_congr_left fun y hy => by
          obtain ⟨m, _, rfl⟩ := List.mem_map.mp (pm.mem_iff.mp hy)
          show moveL (unMv (moveL m)) = moveL m
          rw [unMv_mv]
        rw [this, List.map_id]
      have pm' : (ys.map unMv).Perm mv := by
        have := pm.map unMv
        rw [List.map_map] at this
        have e : mv.map (unMv ∘ moveL) = mv := by
          have : mv.map (unMv ∘ moveL) = mv.map id := List.map_congr_left fun m _ => unMv_mv m
          rw [this, List.map_id]
        rwa [e] at this
      refine ⟨by rw [sizeLine_eq]; simp, fun p hp => ?_⟩
      have s9 := same_new (o := .tup [x, .int (n : Nat), v3, v4, v5]) hp
      have s68 := (s6.trans s7).trans s8
      refine q ⟨n, l10, l11, ys.map unMv⟩ _ c5 _ (C5.dr.trans (Dr.same C5.dr.well (s68.trans s9))) ?_ (small_of L k2 n1 n2 sl10 sl11 C5.sub (fun m hm => ⟨(C5.cost m hm).1, (C5.cost m hm).2.1⟩) pm' (by rw [← ey]; exact pw)) fun hr m hm => (C5.cost m (pm'.mem_iff.mp hm)).2.2 hr
      rw [machD_eq]
      refine .tup (.inl (.inl upd_same)) (.cons (hx5.mono (s68.trans s9)) (.cons (.int _) (.cons (p3.mono ((s7.trans s8).trans s9)) (.cons (p4.mono (s8.trans s9)) (.one ?_)))))
      have := p5.mono s9
      rw [ey, mv_map] at this
      exact this
end
end Kw

set_option maxRecDepth 100000
set_option maxHeartbeats 1000000
/-! _law_language -/
namespace Kw
open PySem PySem.Spec PyProof.Rows L2 KD Mx
section
variable {P : Program} {w : World} {K : PySem.W.Frag} {mg : Str → Option Value} {base : Heap}
theorem cb1 {r : List V → Hp → VK → Prop} {te : TE} {σ : L2.St} {H : Hp} {Q : VK} (h : te σ H fun v H1 => r [v] H1 Q) : tCB r (tCons te tNil) σ H Q := h
theorem cons_cb {r : List V → Hp → VK → Prop} {te : TE} {σ : L2.St} {H : Hp} {Q : List V → Hp → Prop} (h : te σ H fun v H1 => r [v] H1 fun z H2 => Q [z] H2) : tCons (tCB r (tCons te tNil)) tNil σ H Q := h
theorem tup_of {H : Hp} {D : Addr} {acc : List V} {Q : VK} (e : H D = some (.lst acc)) (q : ∀ l, H l = none → Q (.ref l) (upd H l (.tup acc))) : rTupS K [.ref D] H Q := ⟨D, acc, rfl, .inl ⟨.inl (.inl e), q⟩⟩
def spLawL (K : PySem.W.Frag) : Sp := fun vs H Q _ => ∃ (a c : Addr) (x : V) (lt : List Str), vs = [.ref a, x, .int 2] ∧ Well H a c ∧ Dq K H x (letD lt) ∧ LetOk lt ∧ lt.length ≤ 2 ∧
  ∀ L v c' H', Dr a c H c' H' → Dq K H' v (langD lt L) → LgOk lt L → Q v H'
theorem ok_l_language (T : Txt K mg) : FnOk P w K mg base CX0 2 T.A_l_language.f T.A_l_language.d ["well", "letters", "most"] (spLawL K) := by
  refine T.A_l_language.F.ok sc_l_language (fun vs H Q E h => ?_) (fun cdv A outer s H vs Q E hr h => ?_)
  · obtain ⟨_, _, _, _, rfl, _⟩ := h; rfl
  · obtain ⟨a, c, x, lt, rfl, hw, hx, L, k2, q⟩ := h
    refine ⟨_, ((pss_cons (ps_set (i := 3) sc_l_language.nd rfl (.inr rfl) (pe_op op_add pe_int (pe_call (ok_l_draw T) (hr.mono (by decide)) (by rfl) T.A_l_draw.g T.A_l_draw.F.kp T.A_l_draw.b .nil pass0 (pa_cons (pv 0) (pa_cons (pv 2) pa_nil)))))
  (pss_cons (ps_set (i := 4) sc_l_language.nd rfl (.inl rfl) (pe_callTy (kTup (K := K)) (by rfl) T.n_tuple (by decide +kernel) (pa_cons (pe_lc (own := [("state", 5)]) (g := gName 5) (tt := tYes) rfl sc_l_language.nd (pi_range1 rfl T.n_range (pa_cons (pv 3) pa_nil)) (blkOk_by (own := [("state", 5)]) (N := ["well", "letters", "most", "many", "rows", "state", "letter"]) (sc := defScope s_l_language) (by decide +kernel)) (fun _ _ _ _ _ => (pg_name (i := 5) sc_l_language.nd rfl (.inl rfl))) (fun _ _ _ _ _ => pts_nil) (fun _ _ _ _ _ => (pe_callTy (kTup (K := K)) (by rfl) T.n_tuple (by decide +kernel) (pa_cons (pe_lc (own := [("letter", 6)]) (g := gName 6) (tt := tYes) rfl sc_l_language.nd (kiTup (K := K) (pv 1)) (blkOk_in (own := [("letter", 6)]) (N := ["well", "letters", "most", "many", "rows", "state", "letter"]) (sc := defScope s_l_language) rfl (by decide +kernel)) (fun _ _ _ _ _ => (pg_name (i := 6) sc_l_language.nd rfl (.inl rfl))) (fun _ _ _ _ _ => pts_nil) (fun _ _ _ _ _ => (pe_call (ok_l_draw T) (hr.mono (by decide)) (by rfl) T.A_l_draw.g T.A_l_draw.F.kp T.A_l_draw.b .nil pass0 (pa_cons (pv 0) (pa_cons (pv 3) pa_nil))))) pa_nil)))) pa_nil)))
  (pss_one (ps_ret (pe_tup (pa_cons (pv 1) (pa_cons (pv 4) (pa_cons (pe_callTy (kTup (K := K)) (by rfl) T.n_tuple (by decide +kernel) (pa_cons (pe_lc (own := [("state", 5)]) (g := gName 5) rfl sc_l_language.nd (pi_range1 rfl T.n_range (pa_cons (pv 3) pa_nil)) (blkOk_by (own := [("state", 5)]) (N := ["well", "letters", "most", "many", "rows", "state", "letter"]) (sc := defScope s_l_language) (by decide +kernel)) (fun _ _ _ _ _ => (pg_name (i := 5) sc_l_language.nd rfl (.inl rfl))) (fun _ _ _ _ _ => pts_one (pt_cmpR op_eq (pe_call (ok_l_draw T) (hr.mono (by decide)) (by rfl) T.A_l_draw.g T.A_l_draw.F.kp T.A_l_draw.b .nil pass0 (pa_cons (pv 0) (pa_cons pe_int pa_nil))) pe_int (nomark _))) (fun _ _ _ _ _ => (pv 5))) pa_nil)) pa_nil))))))))), ?_⟩
    refine seq_asg ?_
    refine draw1 (K := K) (many := 2) rfl hw (evd_v 2 rfl (.int 2)) (by decide) (by decide) fun g1 c1 H1 hg1 r1 => ?_
    generalize hn : g1 + 1 = n
    have n1 : 1 ≤ n := by omega
    have n2 : n ≤ 2 := by omega
    have hx1 := hx.kp (r1.kp hw)
    refine seq_asg ?_
    refine cb1 ?_
    refine lc_well (K := K) (a := a) (c := c1) (ds := nats n) (evi_range1 (n := n) (evd_v 3 rfl (.int _)) (by omega)) (by simp [nats]; omega) r1.well (fun i acc H' => ∃ rs : List (List Nat), rs.length = i ∧ DqAll K H' acc (rs.map rowD) ∧ ∀ r ∈ rs, r.length = lt.length ∧ ∀ s ∈ r, s < n) (fun i acc H2 H3 ⟨rs, h1, h2, h3⟩ kp => ⟨rs, h1, h2.kp kp, h3⟩) (fun _ => ⟨[], rfl, .nil, fun r hr => by simp at hr⟩) (fun i d acc y c2 H2 hd d2 dy hA la R R' hR hR' => ?_) fun D acc c2 H2 hD d2 e2 hA la => ?_
    · obtain ⟨rs, hl, dr, hr⟩ := hA
      refine ⟨rfl, ?_⟩
      refine yesI (B := fun H3 => R' H3) ?_
      refine cb1 ?_
      have hx2 := hx1.kp (d2.kp r1.well)
      refine lc_well (K := K) (a := a) (c := c2) (ds := lt.map .str) (evi_tup (evd_v 1 rfl hx2)) (by rw [List.length_map]; omega) d2.well (fun j acc' _ => ∃ r : List Nat, acc' = natsV r ∧ r.length = j ∧ ∀ s ∈ r, s < n) (fun _ _ _ _ h _ => h) (fun _ => ⟨[], rfl, rfl, fun s hs => by simp at hs⟩) (fun j d' acc' y' c3 H3 hd' d3 dy' hA' la' S S' hS hS' => ?_) fun D' acc' c3 H3 hD' d3 e3 hA' la' => ?_
      · obtain ⟨r, rfl, rl, rb⟩ := hA'
        refine ⟨rfl, ?_⟩
        refine yesI (B := fun H3 => S' H3) ?_
        refine call_draw (K := K) (many := n) rfl d3.well (evd_v 3 rfl (.int (n : Nat))) (by omega) (by omega) fun g c4 H4 hg d4 => hS _ c4 H4 d4 ⟨r ++ [g], ?_, by simp [rl], fun s hs => ?_⟩
        · unfold natsV; rw [List.map_append]; rfl
        · rcases List.mem_append.mp hs with hs | hs
          · exact rb s hs
          · simp at hs; omega
      · obtain ⟨r, rfl, rl, rb⟩ := hA'
        refine tup_of e3 fun l hl' => ?_
        have s4 := same_new (o := .tup (natsV r)) hl'
        refine hR _ c3 _ (d3.trans (Dr.same d3.well s4)) ⟨rs ++ [r], by simp [hl], ?_, fun r' hr' => ?_⟩
        · rw [List.map_append]
          exact ((dr.kp (d3.kp d2.well)).mono s4).snoc (.tup (.inl (.inl upd_same)) (dq_nats r))
        · rcases List.mem_append.mp hr' with h | h
          · exact hr r' h
          · simp at h
            subst h
            rw [List.length_map] at rl
            exact ⟨rl, rb⟩
    · obtain ⟨rs, hl, dr, hr⟩ := hA
      have hl : rs.length = n := by simpa [nats] using hl
      refine tup_of e2 fun l hl' => ?_
      have s3 := same_new (o := .tup acc) hl'
      have d3 := d2.trans (Dr.same d2.well s3)
      have dR : Dq K (upd H2 l (.tup acc)) (.ref l) (.tuple (rs.map rowD)) := .tup (.inl (.inl upd_same)) (dr.mono s3)
      generalize (upd H2 l (.tup acc)) = H3 at s3 d3 dR
      have hx3 := hx1.kp (d3.kp r1.well)
      refine ⟨_, rfl, _, rfl, ?_⟩
      refine cons_cb ?_
      refine lc_some (K := K) (n := n) (many := 2) (i := 5) (wv := 0) (evd_v 3 rfl (.int _)) (by omega) d3.well (by decide) (by decide) (fun _ => rfl) (fun _ => rfl) (fun _ => rfl) fun D10 l10 c4 H4 hD10 d4 e10 sl10 => ?_
      refine tup_of e10 fun l2 hl2 => ?_
      have s5 := same_new (o := .tup (natsV l10)) hl2
      refine ⟨by rw [sizeLine_eq]; simp, fun p hp => ?_⟩
      have s6 := same_new (o := .tup [x, .ref l, .ref l2]) hp
      have k4 := d4.kp d3.well
      have ll : l10.length ≤ 2 := by have := sl10.length_le; rw [List.length_range] at this; omega
      refine q ⟨rs, l10⟩ _ c4 _ (r1.trans (d3.trans (d4.trans (Dr.same d4.well (s5.trans s6))))) (.tup (.inl (.inl upd_same)) (.cons ((hx3.kp k4).mono (s5.trans s6)) (.cons ((dR.kp k4).mono (s5.trans s6)) (.one (.tup (.inl (.inl (s6 _ _ upd_same))) (dq_nats l10)))))) ⟨L, by show 1 ≤ rs.length; omega, by show rs.length ≤ 2; omega, fun r hr' => ⟨(hr r hr').1, fun s hs => by show s < rs.length; rw [hl]; exact (hr r hr').2 s hs⟩, fun p hp => by show p < rs.length; rw [hl]; exact List.mem_range.mp (sl10.subset hp), ?_, ll⟩
      show (zs l10).Pairwise (· < ·)
      unfold zs
      rw [List.pairwise_map]
      exact (List.Pairwise.sublist sl10 List.pairwise_lt_range).imp fun h => by omega
end
end Kw

set_option maxRecDepth 100000
set_option maxHeartbeats 1000000
/-! _law_plain_pairs -/
namespace Kw
open PySem PySem.Spec PyProof.Rows L2 KD Mx
section
variable {K : PySem.W.Frag} {H : Hp} {σ : L2.St} {te ta tb : TE} {tr : TA} {lt : List Str} {n : Nat}
def EvAB (K : PySem.W.Frag) (ta : TA) (σ : L2.St) (H : Hp) (lt : List Str) (n : Nat) : Prop := ∀ H1, Same H H1 → ∀ Q : List V → Hp → Prop, (∀ vs ds H2, Same H1 H2 → DqAll K H2 vs ds → ds.length = n → (∀ d ∈ ds, Below lt d) → Q vs H2) → ta σ H1 Q
def EvBs (K : PySem.W.Frag) (te : TE) (σ : L2.St) (H : Hp) (lt : List Str) (n : Nat) : Prop := ∀ H1, Same H H1 → ∀ Q : VK, (∀ p xs ds H2, H1 p = none → Same H1 H2 → H2 p = some (.lst xs) → DqAll K H2 xs ds → ds.length = n → (∀ d ∈ ds, Below lt d) → Q (.ref p) H2) → te σ H1 Q
theorem evab_nil : EvAB K tNil σ H lt 0 := fun H1 s Q q => q [] [] H1 (Same.refl _) .nil rfl fun d hd => by simp at hd
theorem evab_cons (h : EvP K te σ H (Below lt)) (hr : EvAB K tr σ H lt n) : EvAB K (tCons te tr) σ H lt (n + 1) := fun H1 s Q q => h H1 s _ fun v H2 r s2 p2 b2 => hr H2 (s.trans s2) _ fun vs ds H3 s3 d3 l3 b3 => q _ _ H3 (s2.trans s3) (.cons (p2.mono s3) d3) (by rw [List.length_cons, l3]) fun d hd => by
  rcases List.mem_cons.mp hd with rfl | hd
  · exact b2
  · exact b3 d hd
theorem evbs_lst (h : EvAB K tr σ H lt n) (hn : n ≤ 1000) : EvBs K (tLst tr) σ H lt n := fun H1 s Q q => h H1 s _ fun vs ds H2 s2 d2 l2 b2 => ⟨by rw [d2.length, l2, sizeLine_eq]; omega, fun p hp => q p vs ds _ (s2.free hp) (s2.trans (same_new hp)) upd_same (d2.mono (same_new hp)) l2 b2⟩
theorem evp_two {A B : PyData → Prop} (ha : EvP K ta σ H A) (hb : EvP K tb σ H B) (h : ∀ a b, A a → B b → Below lt (.tuple [a, b])) : EvP K (tTup (tCons ta (tCons tb tNil))) σ H (Below lt) := fun H1 s Q q =>
  ha H1 s _ fun v H2 r s2 p2 a2 => hb H2 (s.trans s2) _ fun v' H3 r' s3 p3 b3 => ⟨by rw [sizeLine_eq]; simp, fun p hp => by
    have s4 := same_new (o := .tup [v, v']) hp
    exact q _ _ _ ((s2.trans s3).trans s4) (.tup (.inl (.inl upd_same)) (.cons ((p2.mono s3).mono s4) (.one (p3.mono s4)))) (h r r' a2 b3)⟩
end
section
variable {P : Program} {w : World} {K : PySem.W.Frag} {mg : Str → Option Value} {base : Heap}
def spPlainP (K : PySem.W.Frag) : Sp := fun vs H Q _ => ∃ (x y : V) (lt : List Str) (M N : Mach), vs = [x, y] ∧ Dq K H x (machD lt M) ∧ Dq K H y (machD lt N) ∧ Small lt M ∧ Small lt N ∧ PlainM M ∧ PlainM N ∧
  ∀ p xs ds H', H p = none → Same H H' → H' p = some (.lst xs) → DqAll K H' xs ds → ds.length = 3 → (∀ d ∈ ds, Below lt d) → Q (.ref p) H'
theorem ok_l_plain_pairs (T : Txt K mg) : FnOk P w K mg base CX0 9 T.A_l_plain_pairs.f T.A_l_plain_pairs.d ["machine", "other"] (spPlainP K) := by
  refine T.A_l_plain_pairs.F.ok sc_l_plain_pairs (fun vs H Q E h => ?_) (fun cdv A outer s H vs Q E hr h => ?_)
  · obtain ⟨_, _, _, _, _, rfl, _⟩ := h; rfl
  · obtain ⟨x, y, lt, M, N, rfl, hx, hy, sm, sn, pm, pn, q⟩ := h
    refine ⟨_, ((pss_one (ps_ret (pe_lst (pa_cons (pe_tup (pa_cons (pv 0) (pa_cons (pe_call (ok_summed T) (hr.mono (by decide)) (by rfl) T.A_summed.g T.A_summed.F.kp T.A_summed.b .nil pass0 (pa_cons (pv 0) (pa_cons (pv 1) pa_nil))) pa_nil))) (pa_cons (pe_tup (pa_cons (pv 1) (pa_cons (pe_call (ok_summed T) (hr.mono (by decide)) (by rfl) T.A_summed.g T.A_summed.F.kp T.A_summed.b .nil pass0 (pa_cons (pv 0) (pa_cons (pv 1) pa_nil))) pa_nil))) (pa_cons (pe_tup (pa_cons (pe_call (ok_mirrored_machine T) (hr.mono (by decide)) (by rfl) T.A_mirrored_machine.g T.A_mirrored_machine.F.kp T.A_mirrored_machine.b .nil pass0 (pa_cons (pe_call (ok_mirrored_machine T) (hr.mono (by decide)) (by rfl) T.A_mirrored_machine.g T.A_mirrored_machine.F.kp T.A_mirrored_machine.b .nil pass0 (pa_cons (pv 0) pa_nil)) pa_nil)) (pa_cons (pv 0) pa_nil))) pa_nil))))))), ?_⟩
    have v0 : EvD K (tVar 0) (L2.start ["machine", "other"] [x, y]) H (machD lt M) := evd_v 0 rfl hx
    have v1 : EvD K (tVar 1) (L2.start ["machine", "other"] [x, y]) H (machD lt N) := evd_v 1 rfl hy
    have su : ∀ {E : XK}, EvP K (tCall (spSummed K) [] E (tCons (tVar 0) (tCons (tVar 1) tNil))) (L2.start ["machine", "other"] [x, y]) H (fun r => ∃ R, r = machD lt R ∧ Made (M.n * N.n) (prodL M.st N.st N.n) (prodL M.en N.en N.n) (M.mv.flatMap (sumM N)) R) := fun {E} => evx_call (lt, M, N) (eva_cons v0 (eva_cons v1 eva_nil)) ⟨⟨sm.ok, sn.ok⟩, ⟨pm, pn⟩, ⟨sm.lite, sn.lite⟩, sm.per, sn.per⟩
    have mi : ∀ {E E' : XK}, EvP K (tCall (spMirrored K) [] E (tCons (tCall (spMirrored K) [] E' (tCons (tVar 0) tNil)) tNil)) (L2.start ["machine", "other"] [x, y]) H (fun r => ∃ R R2, r = machD lt R2 ∧ Made M.n M.en M.st (M.mv.map mir) R ∧ Made R.n R.en R.st (R.mv.map mir) R2) := fun {E E'} H1 s Q1 q1 => by
      refine (evx_call (K := K) (E := E') (args := fun a : List Str × Mach => [machD a.1 a.2]) (pre := fun a => MOk a.1 a.2 ∧ PlainM a.2 ∧ Lite a.2) (res := fun a r => ∃ R, r = machD a.1 R ∧ Made a.2.n a.2.en a.2.st (a.2.mv.map mir) R) (lt, M) (eva_cons v0 eva_nil) ⟨sm.ok, pm, sm.lite⟩) H1 s _ fun v H2 r s2 p2 e2 => ?_
      obtain ⟨R, rfl, m1⟩ := e2
      obtain ⟨oR, pR, lR⟩ := mirrored_ok sm.ok pm sm.lite m1
      exact ⟨(lt, R), .one p2, ⟨oR, pR, lR⟩, fun v' H3 r' s3 p3 ⟨R2, e3, m2⟩ => q1 v' H3 r' (s2.trans s3) p3 ⟨R, R2, e3, m1, m2⟩⟩
    refine (evbs_lst (K := K) (lt := lt) (evab_cons (evp_two v0 su fun a b ea eb => ?_) (evab_cons (evp_two v1 su fun a b ea eb => ?_) (evab_cons (evp_two mi v0 fun a b ea eb => ?_) evab_nil))) (by decide)) H (Same.refl _) _ fun p xs ds H1 hp s1 e1 d1 l1 b1 => q p xs ds H1 hp s1 e1 d1 l1 b1
    · subst ea
      obtain ⟨R, rfl, m⟩ := eb
      obtain ⟨oR, s1, s2⟩ := summed_ok sm sn pm pn m
      exact below_sim s1 sm.ok oR
    · subst ea
      obtain ⟨R, rfl, m⟩ := eb
      obtain ⟨oR, s1, s2⟩ := summed_ok sm sn pm pn m
      exact below_sim s2 sn.ok oR
    · subst eb
      obtain ⟨R, R2, rfl, m1, m2⟩ := ea
      obtain ⟨oR, pR, lR⟩ := mirrored_ok sm.ok pm sm.lite m1
      obtain ⟨oR2, _, _⟩ := mirrored_ok oR pR lR m2
      exact below_sim (mirror2_sim m1 m2) oR2 sm.ok
end
end Kw

set_option maxRecDepth 100000
set_option maxHeartbeats 1000000
/-! the law -/
namespace Kw
open PySem PySem.Spec PyProof.Rows L2 KD Mx
theorem lets_one : LetOk (["a"] : List Str) := ⟨by decide, by decide, by decide +kernel, by decide, by decide +kernel⟩
theorem lets_two : LetOk (["a", "b"] : List Str) := ⟨by decide, by decide, by decide +kernel, by decide, by decide +kernel⟩
section
variable {P : Program} {w : World} {K : PySem.W.Frag} {mg : Str → Option Value} {base : Heap}
theorem call_lawM {H : Hp} {σ : L2.St} {a c : Addr} {x : V} {lt : List Str} {pl : Bool} {E : XK} {Q : VK} (h1 : σ[1]? = some (some (.ref a))) (h2 : σ[2]? = some (some x)) (h3 : σ[3]? = some (some (.bl pl))) (hw : Well H a c) (hx : Dq K H x (letD lt)) (L : LetOk lt) (k2 : lt.length ≤ 2)
    (q : ∀ M v c' H', Dr a c H c' H' → Dq K H' v (machD lt M) → Small lt M → (pl = true → PlainM M) → Q v H') : tCall (spLawM K) [] E (tCons (tVar 1) (tCons (tVar 2) (tCons (tC (.int 2)) (tCons (tNotV (tVar 3)) tNil)))) σ H Q :=
  have key := (evd_not (K := K) (evd_v (H := H) 3 h3 (.bl pl))).run (Same.refl H) (Q := fun v H2 => spLawM K ([.ref a, x, .int 2, v] ++ []) H2 Q E) (fun v H1 s1 p1 => by
    cases p1
    exact ⟨a, c, x, lt, !pl, rfl, hw.mono s1, hx.mono s1, L, k2, fun M v c' H' d dv sm pm => q M v c' H' ((Dr.same hw s1).trans d) dv sm fun h => pm (by rw [h]; rfl)⟩)
  ⟨_, h1, _, h2, key⟩
theorem evq_setB {H : Hp} {σ : L2.St} {te : TE} {u : TS} {D : Ends} {lt : List Str} {n i : Nat} (h : EvBs K te σ H lt n) (q : ∀ p xs ds H1, H p = none → Same H H1 → H1 p = some (.lst xs) → DqAll K H1 xs ds → ds.length = n → (∀ d ∈ ds, Below lt d) → u D (σ.set i (some (.ref p))) H1) : tSeq (tAsg te (gName i)) u D σ H := h H (Same.refl _) _ fun p xs ds H1 hp s e d l b => q p xs ds H1 hp s e d l b
theorem seq_asgG {te : TE} {g : TG} {u : TS} {D : Ends} {σ : L2.St} {H : Hp} (h : te σ H fun v H1 => g v σ H1 fun σ' H' => u D σ' H') : tSeq (tAsg te g) u D σ H := h
theorem ix_drawV {H : Hp} {σ : L2.St} {te : TE} {i j : Nat} {a c p : Addr} {xs : List V} {E : XK} {Q : VK} (hp : σ[j]? = some (some (.ref p))) (e : H p = some (.lst xs)) (np : p ≠ a) (h0 : σ[i]? = some (some (.ref a))) (hw : Well H a c) (h : EvD K te σ H (.int (xs.length : Nat))) (m0 : 0 < xs.length) (m1 : xs.length ≤ 1000)
    (q : ∀ (n : Nat) v c' H', xs[n]? = some v → Dr a c H c' H' → Q v H') : tOp (rIxL K) (tVar j) (tCall spDraw [] E (tCons (tVar i) (tCons te tNil))) σ H Q := ⟨_, hp, call_draw (K := K) h0 hw h m0 m1 fun n c' H2 hn d2 => ⟨p, xs, n, xs[n], rfl, rfl, .inl (.inl (d2.fr _ _ np e)), atI_nat (List.getElem?_eq_getElem hn), q n _ c' H2 (List.getElem?_eq_getElem hn) d2⟩⟩
def sp_law (K : PySem.W.Frag) : Sp := fun vs H Q _ => ∃ (a : Addr) (ns : List Int), vs = [.ref a] ∧ SqL K H a (ns.map V.int) ∧ ns.length ≤ 63 ∧ ∀ H', Q (.bl true) H'
theorem ok_law (T : Txt K mg) : FnOk P w K mg base CX0 20 T.A_law.f T.A_law.d ["script"] (sp_law K) := by
  refine T.A_law.F.ok sc_law (fun vs H Q E h => ?_) (fun cdv A outer s H vs Q E hr h => ?_)
  · obtain ⟨_, _, rfl, _⟩ := h; rfl
  · obtain ⟨sa, ns, rfl, hs, few, q⟩ := h
    refine ⟨_, ((pss_cons (ps_set (i := 1) sc_law.nd rfl (.inl rfl) (pe_call (ok_l_well T) (hr.mono (by decide)) (by rfl) T.A_l_well.g T.A_l_well.F.kp T.A_l_well.b .nil pass0 (pa_cons (pv 0) pa_nil)))
  (pss_cons (ps_set (i := 2) sc_law.nd rfl (.inl rfl) (pe_slice (kSlA (K := K)) (pe_tup (pa_cons pe_str (pa_cons pe_str pa_nil))) po_none (po_some (pe_op op_add pe_int (pe_call (ok_l_draw T) (hr.mono (by decide)) (by rfl) T.A_l_draw.g T.A_l_draw.F.kp T.A_l_draw.b .nil pass0 (pa_cons (pv 1) (pa_cons pe_int pa_nil)))))))
  (pss_cons (ps_set (i := 3) sc_law.nd rfl (.inl rfl) (pe_cmpR op_eq (pe_call (ok_l_draw T) (hr.mono (by decide)) (by rfl) T.A_l_draw.g T.A_l_draw.F.kp T.A_l_draw.b .nil pass0 (pa_cons (pv 1) (pa_cons pe_int pa_nil))) pe_int (nomark _)))
  (pss_cons (ps_par (i := 4) (j := 5) (by rfl) sc_law.nd rfl rfl (by decide) rfl rfl (pa_cons (pe_call (ok_l_machine T) (hr.mono (by decide)) (by rfl) T.A_l_machine.g T.A_l_machine.F.kp T.A_l_machine.b .nil pass0 (pa_cons (pv 1) (pa_cons (pv 2) (pa_cons pe_int (pa_cons (pe_not (pv 3)) pa_nil))))) (pa_cons (pe_call (ok_l_machine T) (hr.mono (by decide)) (by rfl) T.A_l_machine.g T.A_l_machine.F.kp T.A_l_machine.b .nil pass0 (pa_cons (pv 1) (pa_cons (pv 2) (pa_cons pe_int (pa_cons (pe_not (pv 3)) pa_nil))))) pa_nil)) (by rfl))
  (pss_cons (ps_set (i := 6) sc_law.nd rfl (.inl rfl) (pe_lst (pa_cons (pe_tup (pa_cons (pv 4) (pa_cons (pv 4) pa_nil))) (pa_cons (pe_tup (pa_cons (pe_call (ok_cheaper T) (hr.mono (by decide)) (by rfl) T.A_cheaper.g T.A_cheaper.F.kp T.A_cheaper.b .nil pass0 (pa_cons (pv 4) (pa_cons (pv 5) pa_nil))) (pa_cons (pv 4) pa_nil))) (pa_cons (pe_tup (pa_cons (pe_call (ok_cheaper T) (hr.mono (by decide)) (by rfl) T.A_cheaper.g T.A_cheaper.F.kp T.A_cheaper.b .nil pass0 (pa_cons (pv 4) (pa_cons (pv 5) pa_nil))) (pa_cons (pv 5) pa_nil))) (pa_cons (pe_tup (pa_cons (pe_call (ok_repeated T) (hr.mono (by decide)) (by rfl) T.A_repeated.g T.A_repeated.F.kp T.A_repeated.b .nil pass0 (pa_cons (pv 4) pa_nil)) (pa_cons (pv 4) pa_nil))) pa_nil))))))
  (pss_cons (ps_set (i := 6) sc_law.nd rfl (.inl rfl) (pe_op op_cat (pv 6) (pe_lst (pa_cons (pe_tup (pa_cons (pv 4) (pa_cons (pe_call (ok_restricted T) (hr.mono (by decide)) (by rfl) T.A_restricted.g T.A_restricted.F.kp T.A_restricted.b .nil pass0 (pa_cons (pv 4) (pa_cons (pe_call (ok_l_language T) (hr.mono (by decide)) (by rfl) T.A_l_language.g T.A_l_language.F.kp T.A_l_language.b .nil pass0 (pa_cons (pv 1) (pa_cons (pv 2) (pa_cons pe_int pa_nil)))) pa_nil))) pa_nil))) pa_nil))))
  (pss_cons (ps_if (pt_val (pv 3)) (pss_one (ps_set (i := 6) sc_law.nd rfl (.inl rfl) (pe_op op_cat (pv 6) (pe_call (ok_l_plain_pairs T) (hr.mono (by decide)) (by rfl) T.A_l_plain_pairs.g T.A_l_plain_pairs.F.kp T.A_l_plain_pairs.b .nil pass0 (pa_cons (pv 4) (pa_cons (pv 5) pa_nil)))))) pss_nil)
  (pss_cons (ps_set (i := 7) sc_law.nd rfl (.inl rfl) (pe_call (ok_l_draw T) (hr.mono (by decide)) (by rfl) T.A_l_draw.g T.A_l_draw.F.kp T.A_l_draw.b .nil pass0 (pa_cons (pv 1) (pa_cons pe_int pa_nil))))
  (pss_cons (ps_if (PW.pt (pw_and (pt_cmpR op_eq (pv 7) pe_int (nomark _)) (pw_and1 (pt_val (pv 3))))) (pss_one (ps_ret (pe_cmpR op_isBl (pe_call (ok_l_alike_growth T) (hr.mono (by decide)) (by rfl) T.A_l_alike_growth.g T.A_l_alike_growth.F.kp T.A_l_alike_growth.b .nil pass0 (pa_cons (pv 4) (pa_cons (pe_call (ok_scaled T) (hr.mono (by decide)) (by rfl) T.A_scaled.g T.A_scaled.F.kp T.A_scaled.b .nil pass0 (pa_cons (pv 4) (pa_cons pe_int pa_nil))) pa_nil))) pe_bl (nomark _)))) pss_nil)
  (pss_cons (ps_if (pt_cmpR op_eq (pv 7) pe_int (nomark _)) (pss_one (ps_ret (pe_cmpR op_isBl (pe_call (ok_l_alike_growth T) (hr.mono (by decide)) (by rfl) T.A_l_alike_growth.g T.A_l_alike_growth.F.kp T.A_l_alike_growth.b .nil pass0 (pa_cons (pv 4) (pa_cons (pe_call (ok_trimmed T) (hr.mono (by decide)) (by rfl) T.A_trimmed.g T.A_trimmed.F.kp T.A_trimmed.b .nil pass0 (pa_cons (pv 4) pa_nil)) pa_nil))) pe_bl (nomark _)))) pss_nil)
  (pss_cons (ps_asg (pe_ix (kIxL (K := K)) (pv 6) (pe_call (ok_l_draw T) (hr.mono (by decide)) (by rfl) T.A_l_draw.g T.A_l_draw.F.kp T.A_l_draw.b .nil pass0 (pa_cons (pv 1) (pa_cons (pe_callB (kLen (K := K)) (by rfl) T.n_len (by decide +kernel) (pa_cons (pv 6) pa_nil)) pa_nil))) (fun _ _ => rfl)) (kgTup (K := K) rfl (pgs_cons (pg_name (i := 8) sc_law.nd rfl (.inl rfl)) (pgs_cons (pg_name (i := 9) sc_law.nd rfl (.inl rfl)) pgs_nil))))
  (pss_one (ps_ret (pe_cmpR op_isBl (pe_call (ok_l_below T) (hr.mono (by decide)) (by rfl) T.A_l_below.g T.A_l_below.F.kp T.A_l_below.b .nil pass0 (pa_cons (pv 8) (pa_cons (pv 9) pa_nil))) pe_bl (nomark _)))))))))))))))), ?_⟩
    refine seq_asg ?_
    refine ⟨_, rfl, sa, ns, rfl, hs, few, fun a c H1 ha s1 w1 => ?_⟩
    refine seq_asg ?_
    have lets : ∀ {σ : L2.St} {E : XK} {Q : VK}, σ[1]? = some (some (.ref a)) → (∀ lt v c' H', Dr a c H1 c' H' → Dq K H' v (letD lt) → LetOk lt → lt.length ≤ 2 → Q v H') → tSl (rSlA K) (tTup (tCons (tC (.str "a")) (tCons (tC (.str "b")) tNil))) tNoPart (tPart (tOp (rI0 fun i j => .int (i + j)) (tC (.int 1)) (tCall spDraw [] E (tCons (tVar 1) (tCons (tC (.int 2)) tNil))))) σ H1 Q := fun {σ E Q} h0 q => by
      refine ⟨by rw [sizeLine_eq]; simp, fun p hp => ?_⟩
      have s2 := same_new (o := .tup [V.str "a", .str "b"]) hp
      have w2 := w1.mono s2
      have e2 : (upd H1 p (.tup [V.str "a", .str "b"])) p = some (.tup [V.str "a", .str "b"]) := upd_same
      generalize (upd H1 p (.tup [V.str "a", .str "b"])) = H2 at s2 w2 e2
      have np : p ≠ a := fun e => by obtain ⟨ws, z⟩ := w1.lst; rw [e, z] at hp; cases hp
      refine draw1 (K := K) (many := 2) h0 w2 evd_int (by decide) (by decide) fun n c2 H3 hn d3 => ⟨_, rfl, p, _, rfl, .inl (.inl (d3.fr _ _ np e2)), fun _ => ?_, fun hw => ?_⟩
      · have dd := (Dr.same w1 s2).trans d3
        have e3 := d3.fr _ _ np e2
        refine q ["a", "b"] _ c2 H3 dd (.tup (.inl (.inl e3)) (.cons (.str _) (.one (.str _)))) lets_two (by decide)
      · have hn0 : n = 0 ∨ n = 1 := by omega
        rcases hn0 with rfl | rfl
        · intro p4 hp4
          have s4 := same_new (o := .tup (cutV [V.str "a", .str "b"] none (some ((0 + 1 : Nat) : Int)))) hp4
          exact q ["a"] _ c2 _ (((Dr.same w1 s2).trans d3).trans (Dr.same d3.well s4)) (.tup (.inl (.inl upd_same)) (.one (.str _))) lets_one (by decide)
        · exact absurd ⟨rfl, rfl⟩ hw
    refine lets rfl fun lt x c2 H2 d2 hx L k2 => ?_
    refine seq_asg ?_
    refine call_draw (K := K) (many := 2) rfl d2.well evd_int (by decide) (by decide) fun g3 c3 H3 _ d3 => ⟨rfl, ?_⟩
    generalize decide (V.int (g3 : Nat) = V.int 0) = pl
    have hx3 := hx.kp (d3.kp d2.well)
    refine call_lawM (K := K) rfl rfl rfl d3.well hx3 L k2 fun M vm c4 H4 d4 dm sm pm => ?_
    refine call_lawM (K := K) rfl rfl rfl d4.well (hx3.kp (d4.kp d3.well)) L k2 fun N vn c5 H5 d5 dn sn pn => ⟨_, _, rfl, ?_⟩
    have dm5 := dm.kp (d5.kp d4.well)
    have hx5 := (hx3.kp (d4.kp d3.well)).kp (d5.kp d4.well)
    have bo := sm.ok
    refine evq_setB (K := K) (lt := lt) (n := 4) (evbs_lst (evab_cons (evp_two (evd_v 4 rfl dm5) (evd_v 4 rfl dm5) fun a b ea eb => ?_) (evab_cons (evp_two (evx_call (lt, M, N) (eva_cons (evd_v 4 rfl dm5) (eva_cons (evd_v 5 rfl dn) eva_nil)) ⟨sm.ok, sn.ok, sm.lite, sn.lite⟩) (evd_v 4 rfl dm5) fun a b ea eb => ?_) (evab_cons (evp_two (evx_call (lt, M, N) (eva_cons (evd_v 4 rfl dm5) (eva_cons (evd_v 5 rfl dn) eva_nil)) ⟨sm.ok, sn.ok, sm.lite, sn.lite⟩) (evd_v 5 rfl dn) fun a b ea eb => ?_) (evab_cons (evp_two (evx_call (lt, M) (eva_cons (evd_v 4 rfl dm5) eva_nil) ⟨sm.ok, sm.lite⟩) (evd_v 4 rfl dm5) fun a b ea eb => ?_) evab_nil)))) (by decide)) fun P6 x6 ds6 H6 hP6 s6 e6 d6 l6 b6 => ?_
    · subst ea eb
      exact below_sim (same_sim M) sm.ok sm.ok
    · subst eb
      obtain ⟨R, rfl, m⟩ := ea
      obtain ⟨oR, s1, s2⟩ := cheaper_ok sm sn m
      exact below_sim s1 oR sm.ok
    · subst eb
      obtain ⟨R, rfl, m⟩ := ea
      obtain ⟨oR, s1, s2⟩ := cheaper_ok sm sn m
      exact below_sim s2 oR sn.ok
    · subst eb
      obtain ⟨R, rfl, m⟩ := ea
      obtain ⟨oR, rp⟩ := repeated_ok sm m
      exact below_rep rp oR sm.ok
    have w5 := d5.well
    have w6 := w5.mono s6
    have nP6 : P6 ≠ a := fun e => by obtain ⟨ws, z⟩ := w5.lst; rw [e, z] at hP6; cases hP6
    refine seq_asg ?_
    refine ⟨_, rfl, _, rfl, _, rfl, _, rfl, _, rfl, a, c5, x, lt, rfl, w6, hx5.mono s6, L, k2, fun Lg vl c7 H7 d7 dl lg => ?_⟩
    have dm7 := (dm5.mono s6).kp (d7.kp w6)
    have dn7 := (dn.mono s6).kp (d7.kp w6)
    have e7 := d7.fr _ _ nP6 e6
    have dd7 := d6.kp (d7.kp w6)
    refine ⟨(lt, M, Lg), .cons dm7 (.one dl), ⟨sm.ok, lg, sm.lite⟩, fun vr H8 r s8 p8 er => ?_⟩
    obtain ⟨R, rfl, mR⟩ := er
    obtain ⟨oR, sR⟩ := restricted_ok sm lg mR
    refine ⟨by rw [sizeLine_eq]; simp, fun p9 hp9 => ?_⟩
    have s9 := same_new (o := .tup [vm, vr]) hp9
    refine ⟨by rw [sizeLine_eq]; simp, fun p10 hp10 => ?_⟩
    have s10 := same_new (o := .lst [V.ref p9]) hp10
    have d9 : Dq K (upd H8 p9 (.tup [vm, vr])) (.ref p9) (.tuple [machD lt M, machD lt R]) := .tup (.inl (.inl upd_same)) (.cons ((dm7.mono s8).mono s9) (.one (p8.mono s9)))
    have s710 := (s8.trans s9).trans s10
    refine ⟨P6, p10, x6, [.ref p9], rfl, rfl, s710 _ _ e7, upd_same, by rw [d6.length, l6, sizeLine_eq]; simp, fun P11 hP11 => ?_⟩
    have nP11 : P11 ≠ a := fun e => by obtain ⟨ws, z⟩ := (d7.well.mono s710).lst; rw [e, z] at hP11; cases hP11
    have s11 := same_new (o := .lst (x6 ++ [V.ref p9])) hP11
    have s711 := s710.trans s11
    have d11 : DqAll K (upd (upd (upd H8 p9 (.tup [vm, vr])) p10 (.lst [V.ref p9])) P11 (.lst (x6 ++ [V.ref p9]))) (x6 ++ [V.ref p9]) (ds6 ++ [PyData.tuple [machD lt M, machD lt R]]) := (dd7.mono s711).append (.one ((d9.mono s10).mono s11))
    have e11 : (upd (upd (upd H8 p9 (.tup [vm, vr])) p10 (.lst [V.ref p9])) P11 (.lst (x6 ++ [V.ref p9]))) P11 = some (.lst (x6 ++ [V.ref p9])) := upd_same
    have b11 : ∀ d ∈ ds6 ++ [PyData.tuple [machD lt M, machD lt R]], Below lt d := fun d hd => by
      rcases List.mem_append.mp hd with hd | hd
      · exact b6 d hd
      · simp at hd
        subst hd
        exact below_sim sR sm.ok oR
    have l11 : (ds6 ++ [PyData.tuple [machD lt M, machD lt R]]).length = 5 := by simp [l6]
    have dm11 := dm7.mono s711
    have dn11 := dn7.mono s711
    have w11 := d7.well.mono s711
    generalize (upd (upd (upd H8 p9 (.tup [vm, vr])) p10 (.lst [V.ref p9])) P11 (.lst (x6 ++ [V.ref p9]))) = H11 at d11 e11 dm11 dn11 w11
    generalize ds6 ++ [PyData.tuple [machD lt M, machD lt R]] = ds11 at d11 b11 l11
    generalize x6 ++ [V.ref p9] = x11 at d11 e11
    refine evq_ifS (R := fun σ' H' => ∃ P12 xs ds n, σ' = [some (.ref sa), some (.ref a), some x, some (.bl pl), some vm, some vn, some (.ref P12), none, none, none] ∧ P12 ≠ a ∧ Same H11 H' ∧ H' P12 = some (.lst xs) ∧ DqAll K H' xs ds ∧ ds.length = n ∧ 1 ≤ n ∧ n ≤ 8 ∧ ∀ d ∈ ds, Below lt d) (evb_B (K := K) (evd_v 3 rfl (.bl pl))) ?_ (fun hb H12 s12 rest => ?_) fun hb H12 s12 => ⟨P11, x11, ds11, 5, rfl, nP11, s12, s12 _ _ e11, d11.mono s12, l11, by decide, by decide, b11⟩
    · rintro σ' H12 ⟨P12, xs, ds, n, rfl, nP12, s12, e12, d12, ln, n1, n8, b12⟩
      have w12 := w11.mono s12
      have dm12 := dm11.mono s12
      refine seq_asg ?_
      refine call_draw (K := K) (many := 4) rfl w12 evd_int (by decide) (by decide) fun g c13 H13 hg d13 => ?_
      have kp13 := d13.kp w12
      have dm13 := dm12.kp kp13
      have e13 := d13.fr _ _ nP12 e12
      have dd13 := d12.kp kp13
      refine evq_ifn (b := decide ((g : Int) = 0) && pl) (evb_and (evb_test (evd_eq (K := K) (evd_v 7 rfl (.int (g : Nat))) evd_int rfl)) fun _ => evb_B (K := K) (evd_v 3 rfl (.bl pl))) (fun hb H14 s14 => ?_) fun _ H14 s14 => ?_
      · have hpl : pl = true := by
          rw [Bool.and_eq_true] at hb
          exact hb.2
        have dm14 := dm13.mono s14
        refine ⟨_, rfl, _, rfl, (lt, M), .cons dm14 (.one (.int 2)), ⟨sm.ok, pm hpl, sm.lite, sm.per.cost⟩, fun v H15 r s15 p15 er => ?_⟩
        obtain ⟨R, rfl, mR⟩ := er
        obtain ⟨oR, sR, sR'⟩ := scaled_ok sm (pm hpl) mR
        exact ⟨lt, M, R, _, _, _, _, rfl, dm14.mono s15, p15, sm.ok, oR, sR.two sR' mR.n.symm sm.ok.ok oR.ok, fun X Y h => ⟨sR.free oR.ok h.1, sR'.free sm.ok.ok h.2⟩, fun H16 => ⟨true, true, rfl, rfl, q H16⟩⟩
      have dm14 := dm13.mono s14
      refine evq_ifn (b := decide ((g : Int) = 1)) (evb_test (evd_eq (K := K) (evd_v 7 rfl (.int (g : Nat))) evd_int rfl)) (fun hb H15 s15 => ?_) fun _ H15 s15 => ?_
      · have dm15 := dm14.mono s15
        refine ⟨_, rfl, _, rfl, (lt, M), .one dm15, ⟨sm.ok, sm.lite⟩, fun v H16 r s16 p16 er => ?_⟩
        obtain ⟨ks, KL, ⟨he, rfl⟩ | ⟨hne, R, rfl, mR⟩⟩ := er
        · have no := none_ok sm
          refine ⟨lt, M, ⟨1, [], [], []⟩, _, _, _, _, rfl, dm15.mono s16, p16, sm.ok, no, no_clo sm.ok.ok no.ok, fun X Y h => no_free sm.ok.ok (fun q hq => ?_) rfl h, fun H17 => ⟨true, true, rfl, rfl, q H17⟩⟩
          have := (kept_iff KL q).mpr hq
          rw [he] at this
          simp at this
        · have oR := trimmed_ok sm KL hne mR
          have t := trim_of KL mR
          exact ⟨lt, M, R, _, _, _, _, rfl, dm15.mono s16, p16, sm.ok, oR, t.clo sm.ok.ok oR.ok, fun X Y h => ⟨t.sim.free oR.ok h.1, t.free2 sm.ok.ok h⟩, fun H17 => ⟨true, true, rfl, rfl, q H17⟩⟩
      · have s1315 := s14.trans s15
        have w15 := d13.well.mono s1315
        have e15 := s1315 _ _ e13
        have xl : xs.length = n := by rw [d12.length, ln]
        refine seq_asgG ?_
        refine ix_drawV (K := K) (a := a) (c := c13) (p := P12) (xs := xs) rfl e15 nP12 rfl w15 (evd_lenLs (.inl (.inl e15)) (evr_v 6 rfl)) (by omega) (by omega) fun g2 v c16 H16 hv d16 => ?_
        obtain ⟨d, hd, dv⟩ := dd13.get' hv
        obtain ⟨M', N', I, J, rfl, o1, o2, kk, no⟩ := b12 d (List.mem_of_getElem? hd)
        refine gtup2_d ((dv.mono s1315).kp (d16.kp w15)) fun y z dy dz => ?_
        exact ⟨_, rfl, _, rfl, lt, M', N', I, J, y, z, rfl, dy, dz, o1, o2, kk, no, fun H17 => ⟨true, true, rfl, rfl, q H17⟩⟩
    · refine ⟨_, rfl, _, rfl, _, rfl, vm, vn, lt, M, N, rfl, dm11.mono s12, dn11.mono s12, sm, sn, pm hb, pn hb, fun p13 x13 ds13 H13 hp13 s13 e13 d13 l13 b13 => ?_⟩
      refine ⟨P11, p13, x11, x13, rfl, rfl, s13 _ _ (s12 _ _ e11), e13, by rw [d11.length, d13.length, l11, l13, sizeLine_eq]; omega, fun P14 hP14 => ?_⟩
      have s14 := same_new (o := .lst (x11 ++ x13)) hP14
      refine rest _ _ ⟨P14, x11 ++ x13, ds11 ++ ds13, 8, rfl, (fun e => by obtain ⟨ws, z⟩ := (w11.mono (s12.trans s13)).lst; rw [e, z] at hP14; cases hP14), (s12.trans s13).trans s14, upd_same, (((d11.mono s12).mono s13).mono s14).append (d13.mono s14), by simp [l11, l13], by decide, by decide, fun d hd => ?_⟩
      rcases List.mem_append.mp hd with hd | hd
      · exact b11 d hd
      · exact b13 d hd
end
end Kw

set_option maxRecDepth 100000
namespace Kw
open PySem PySem.Spec PyProof.Rows L2 KD
def lawLevel : Nat := 20
theorem sp_law_start {K : PySem.W.Frag} {H : Hp} {a : Addr} {ns : List Int} (hl : ns.length ≤ 63) (hO : Only H) (hS : SqL K H a (ns.map V.int)) : sp_law K [.ref a] H (fun v _ => v = .bl true) fun _ _ _ => False :=
  ⟨a, ns, rfl, hS, hl, fun _ => rfl⟩
theorem law_ok {P : Program} {w : World} {K : PySem.W.Frag} {mg : Str → Option Value} {fa : Addr} (hmg : mg "law" = some (.ref fa)) (T : Txt K mg) :
    ∃ fd : FuncData, (∀ (s : Shared) (u : Value), BindsTo s fd ⟨[u], []⟩ [("script", u)]) ∧
        ∀ base : Heap, K.In base → base.Ns mainGlobals mg → FnOk P w K mg base CX0 lawLevel fa fd ["script"] (sp_law K) := by
  have e := T.A_law.g
  rw [hmg] at e
  cases e
  refine ⟨T.A_law.d, fun s u => ?_, fun base _ _ => ok_law T⟩
  obtain ⟨oc, od, kV, doc, pm, an, cdv, ct, osl, e, lk, hcd⟩ := T.A_law.F.ex
  rw [e]
  exact .of_eq rfl
end Kw
open PySem PySem.W PyProof.Rows
set_option maxHeartbeats 0 in
theorem PySem.Challenge.cw_costslimited_k84_whole_machines_below_on_holds : PySem.Challenge.rw_costslimited_k84_whole_machines_below_on.Holds := by
  w_on; o_law; k_head; (case hw => w_witness2)
  k_fill
  refine L2.walk_ofK (l := PySem.Challenge.rw_costslimited_k84_whole_machines_below_on) (n := 63) (k := Kw.lawLevel) (x := "script") (CX := L2.CX0) (sp := Kw.sp_law) rfl (by decide) rfl ⟨rfl, by decide, by decide⟩ (fun w h Y => PySem.W.kIn_of Y) ?F (fun K H a ns hl hO hS => Kw.sp_law_start hl hO hS) (fun _ _ _ _ h => h)
  case F =>
    intro w mg fa h KX G hmg
    refine' Kw.law_ok hmg (Kw.txt_mk KX G ?da0 ?dg0 ?dh0 ?dp0 ?ds0 ?dm0 ?dk0 ?df0_0 ?df0_1 ?df0_2 ?df0_3 ?df0_4 ?df0_5 ?a0 ?l0 ?c0 ?k0 ?a1 ?l1 ?c1 ?k1 ?a2 ?l2 ?c2 ?k2 ?a3 ?l3 ?c3 ?k3 ?a4 ?l4 ?c4 ?k4 ?a5 ?l5 ?c5 ?k5 ?a6 ?l6 ?c6 ?k6 ?a7 ?l7 ?c7 ?k7 ?a8 ?l8 ?c8 ?k8 ?a9 ?l9 ?c9 ?k9 ?a10 ?l10 ?c10 ?k10 ?a11 ?l11 ?c11 ?k11 ?a12 ?l12 ?c12 ?k12 ?a13 ?l13 ?c13 ?k13 ?a14 ?l14 ?c14 ?k14 ?a15 ?l15 ?c15 ?k15 ?a16 ?l16 ?c16 ?k16 ?a17 ?l17 ?c17 ?k17 ?a18 ?l18 ?c18 ?k18 ?a19 ?l19 ?c19 ?k19 ?a20 ?l20 ?c20 ?k20 ?a21 ?l21 ?c21 ?k21 ?a22 ?l22 ?c22 ?k22 ?a23 ?l23 ?c23 ?k23 ?a24 ?l24 ?c24 ?k24 ?a25 ?l25 ?c25 ?k25 ?a26 ?l26 ?c26 ?k26 ?a27 ?l27 ?c27 ?k27 ?a28 ?l28 ?c28 ?k28 ?a29 ?l29 ?c29 ?k29 ?a30 ?l30 ?c30 ?k30 ?a31 ?l31 ?c31 ?k31 ?a32 ?l32 ?c32 ?k32 ?a33 ?i33 ?l33 ?c33 ?k33 ?a34 ?i34 ?l34 ?c34 ?k34 ?a35 ?i35 ?l35 ?c35 ?k35 ?a36 ?i36 ?l36 ?c36 ?k36 ?a37 ?l37 ?c37 ?k37 ?a38 ?l38 ?c38 ?k38 ?a39 ?l39 ?c39 ?k39 ?a40 ?l40 ?c40 ?k40 ?a41 ?l41 ?c41 ?k41 ?a42 ?l42 ?c42 ?k42 ?a43 ?l43 ?c43 ?k43 ?a44 ?l44 ?c44 ?k44 ?a45 ?l45 ?c45 ?k45 ?a46 ?l46 ?c46 ?k46 ?a47 ?l47 ?c47 ?k47 ?a48 ?l48 ?c48 ?k48 ?a49 ?l49 ?c49 ?k49 ?a50 ?l50 ?c50 ?k50 ?a51 ?l51 ?c51 ?k51 ?a52 ?l52 ?c52 ?k52 ?a53 ?l53 ?c53 ?k53 ?a54 ?l54 ?c54 ?k54 ?a55 ?l55 ?c55 ?k55 ?a56 ?l56 ?c56 ?k56 ?a57 ?l57 ?c57 ?k57 ?a58 ?l58 ?c58 ?k58 ?a59 ?l59 ?c59 ?k59 ?a60 ?l60 ?c60 ?k60 ?a61 ?l61 ?c61 ?k61 ?a62 ?l62 ?c62 ?k62 ?a63 ?l63 ?c63 ?k63 ?a64 ?l64 ?c64 ?k64 ?a65 ?l65 ?c65 ?k65 ?xa0 ?xe0 ?xk0 ?xs0 ?xt0 ?xc0 ?xa1 ?xe1 ?xk1 ?xs1 ?xt1 ?xc1 ?xa2 ?xe2 ?xk2 ?xs2 ?xt2 ?xc2 ?xa3 ?xe3 ?xk3 ?xs3 ?xt3 ?xc3 ?xa4 ?xe4 ?xk4 ?xs4 ?xt4 ?xc4 ?xa5 ?xe5 ?xk5 ?xs5 ?xt5 ?xc5 ?xa6 ?xe6 ?xk6 ?xs6 ?xt6 ?xc6 ?xa7 ?xe7 ?xk7 ?xs7 ?xt7 ?xc7 ?e7_7 ?z0 ?z1 ?z2 ?z3 ?z4 ?z5 ?z6 ?z7 ?z8 ?z9 ?z10 ?z11 ?z12 ?z13 ?z14 ?z15 ?z16 ?v0 ?v1 ?v2 ?v3 ?v4 ?v5 ?v6 ?v7 ?v8 ?v9 ?v10 ?v11 ?v12 ?v13 ?v14)
    (case da0 => k_is); (case dg0 => k_is); (case dh0 => k_is); (case dp0 => k_is); (case ds0 => k_is); (case dm0 => k_is); (case dk0 => k_is); (case df0_0 => k_is); (case df0_1 => k_is)
    (case df0_2 => k_is); (case df0_3 => k_is); (case df0_4 => k_is); (case df0_5 => k_is); (case a0 => k_is); (case l0 => k_is); (case c0 => k_is); (case k0 => k_is); (case a1 => k_is)
    (case l1 => k_is); (case c1 => k_is); (case k1 => k_is); (case a2 => k_is); (case l2 => k_is); (case c2 => k_is); (case k2 => k_is); (case a3 => k_is); (case l3 => k_is); (case c3 => k_is)
    (case k3 => k_is); (case a4 => k_is); (case l4 => k_is); (case c4 => k_is); (case k4 => k_is); (case a5 => k_is); (case l5 => k_is); (case c5 => k_is); (case k5 => k_is); (case a6 => k_is)
    (case l6 => k_is); (case c6 => k_is); (case k6 => k_is); (case a7 => k_is); (case l7 => k_is); (case c7 => k_is); (case k7 => k_is); (case a8 => k_is); (case l8 => k_is); (case c8 => k_is)
    (case k8 => k_is); (case a9 => k_is); (case l9 => k_is); (case c9 => k_is); (case k9 => k_is); (case a10 => k_is); (case l10 => k_is); (case c10 => k_is); (case k10 => k_is); (case a11 => k_is)
    (case l11 => k_is); (case c11 => k_is); (case k11 => k_is); (case a12 => k_is); (case l12 => k_is); (case c12 => k_is); (case k12 => k_is); (case a13 => k_is); (case l13 => k_is)
    (case c13 => k_is); (case k13 => k_is); (case a14 => k_is); (case l14 => k_is); (case c14 => k_is); (case k14 => k_is); (case a15 => k_is); (case l15 => k_is); (case c15 => k_is)
    (case k15 => k_is); (case a16 => k_is); (case l16 => k_is); (case c16 => k_is); (case k16 => k_is); (case a17 => k_is); (case l17 => k_is); (case c17 => k_is); (case k17 => k_is)
    (case a18 => k_is); (case l18 => k_is); (case c18 => k_is); (case k18 => k_is); (case a19 => k_is); (case l19 => k_is); (case c19 => k_is); (case k19 => k_is); (case a20 => k_is)
    (case l20 => k_is); (case c20 => k_is); (case k20 => k_is); (case a21 => k_is); (case l21 => k_is); (case c21 => k_is); (case k21 => k_is); (case a22 => k_is); (case l22 => k_is)
    (case c22 => k_is); (case k22 => k_is); (case a23 => k_is); (case l23 => k_is); (case c23 => k_is); (case k23 => k_is); (case a24 => k_is); (case l24 => k_is); (case c24 => k_is)
    (case k24 => k_is); (case a25 => k_is); (case l25 => k_is); (case c25 => k_is); (case k25 => k_is); (case a26 => k_is); (case l26 => k_is); (case c26 => k_is); (case k26 => k_is)
    (case a27 => k_is); (case l27 => k_is); (case c27 => k_is); (case k27 => k_is); (case a28 => k_is); (case l28 => k_is); (case c28 => k_is); (case k28 => k_is); (case a29 => k_is)
    (case l29 => k_is); (case c29 => k_is); (case k29 => k_is); (case a30 => k_is); (case l30 => k_is); (case c30 => k_is); (case k30 => k_is); (case a31 => k_is); (case l31 => k_is)
    (case c31 => k_is); (case k31 => k_is); (case a32 => k_is); (case l32 => k_is); (case c32 => k_is); (case k32 => k_is); (case a33 => k_is); (case i33 => k_is); (case l33 => k_is)
    (case c33 => k_is); (case k33 => k_is); (case a34 => k_is); (case i34 => k_is); (case l34 => k_is); (case c34 => k_is); (case k34 => k_is); (case a35 => k_is); (case i35 => k_is)
    (case l35 => k_is); (case c35 => k_is); (case k35 => k_is); (case a36 => k_is); (case i36 => k_is); (case l36 => k_is); (case c36 => k_is); (case k36 => k_is); (case a37 => k_is)
    (case l37 => k_is); (case c37 => k_is); (case k37 => k_is); (case a38 => k_is); (case l38 => k_is); (case c38 => k_is); (case k38 => k_is); (case a39 => k_is); (case l39 => k_is)
    (case c39 => k_is); (case k39 => k_is); (case a40 => k_is); (case l40 => k_is); (case c40 => k_is); (case k40 => k_is); (case a41 => k_is); (case l41 => k_is); (case c41 => k_is)
    (case k41 => k_is); (case a42 => k_is); (case l42 => k_is); (case c42 => k_is); (case k42 => k_is); (case a43 => k_is); (case l43 => k_is); (case c43 => k_is); (case k43 => k_is)
    (case a44 => k_is); (case l44 => k_is); (case c44 => k_is); (case k44 => k_is); (case a45 => k_is); (case l45 => k_is); (case c45 => k_is); (case k45 => k_is); (case a46 => k_is)
    (case l46 => k_is); (case c46 => k_is); (case k46 => k_is); (case a47 => k_is); (case l47 => k_is); (case c47 => k_is); (case k47 => k_is); (case a48 => k_is); (case l48 => k_is)
    (case c48 => k_is); (case k48 => k_is); (case a49 => k_is); (case l49 => k_is); (case c49 => k_is); (case k49 => k_is); (case a50 => k_is); (case l50 => k_is); (case c50 => k_is)
    (case k50 => k_is); (case a51 => k_is); (case l51 => k_is); (case c51 => k_is); (case k51 => k_is); (case a52 => k_is); (case l52 => k_is); (case c52 => k_is); (case k52 => k_is)
    (case a53 => k_is); (case l53 => k_is); (case c53 => k_is); (case k53 => k_is); (case a54 => k_is); (case l54 => k_is); (case c54 => k_is); (case k54 => k_is); (case a55 => k_is)
    (case l55 => k_is); (case c55 => k_is); (case k55 => k_is); (case a56 => k_is); (case l56 => k_is); (case c56 => k_is); (case k56 => k_is); (case a57 => k_is); (case l57 => k_is)
    (case c57 => k_is); (case k57 => k_is); (case a58 => k_is); (case l58 => k_is); (case c58 => k_is); (case k58 => k_is); (case a59 => k_is); (case l59 => k_is); (case c59 => k_is)
    (case k59 => k_is); (case a60 => k_is); (case l60 => k_is); (case c60 => k_is); (case k60 => k_is); (case a61 => k_is); (case l61 => k_is); (case c61 => k_is); (case k61 => k_is)
    (case a62 => k_is); (case l62 => k_is); (case c62 => k_is); (case k62 => k_is); (case a63 => k_is); (case l63 => k_is); (case c63 => k_is); (case k63 => k_is); (case a64 => k_is)
    (case l64 => k_is); (case c64 => k_is); (case k64 => k_is); (case a65 => k_is); (case l65 => k_is); (case c65 => k_is); (case k65 => k_is); (case xa0 => k_is); (case xe0 => k_exc)
    (case xk0 => k_is); (case xs0 => k_is); (case xt0 => k_is); (case xc0 => k_is); (case xa1 => k_is); (case xe1 => k_exc); (case xk1 => k_is); (case xs1 => k_is); (case xt1 => k_is)
    (case xc1 => k_is); (case xa2 => k_is); (case xe2 => k_exc); (case xk2 => k_is); (case xs2 => k_is); (case xt2 => k_is); (case xc2 => k_is); (case xa3 => k_is); (case xe3 => k_exc)
    (case xk3 => k_is); (case xs3 => k_is); (case xt3 => k_is); (case xc3 => k_is); (case xa4 => k_is); (case xe4 => k_exc); (case xk4 => k_is); (case xs4 => k_is); (case xt4 => k_is)
    (case xc4 => k_is); (case xa5 => k_is); (case xe5 => k_exc); (case xk5 => k_is); (case xs5 => k_is); (case xt5 => k_is); (case xc5 => k_is); (case xa6 => k_is); (case xe6 => k_exc)
    (case xk6 => k_is); (case xs6 => k_is); (case xt6 => k_is); (case xc6 => k_is); (case xa7 => k_is); (case xe7 => k_exc); (case xk7 => k_is); (case xs7 => k_is); (case xt7 => k_is)
    (case xc7 => k_is); (case e7_7 => k_is); (case z0 => k_is); (case z1 => k_is); (case z2 => k_is); (case z3 => k_is); (case z4 => k_is); (case z5 => k_is); (case z6 => k_is); (case z7 => k_is)
    (case z8 => k_is); (case z9 => k_is); (case z10 => k_is); (case z11 => k_is); (case z12 => k_is); (case z13 => k_is); (case z14 => k_is); (case z15 => k_is); (case z16 => k_is)
    (case v0 => k_is); (case v1 => k_is); (case v2 => k_is); (case v3 => k_is); (case v4 => k_is); (case v5 => k_is); (case v6 => k_is); (case v7 => k_is); (case v8 => k_is); (case v9 => k_is)
    (case v10 => k_is); (case v11 => k_is); (case v12 => k_is); (case v13 => k_is); (case v14 => k_is)
