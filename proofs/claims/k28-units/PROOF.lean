import PyProof.Rows.All
import HandS.ForMost
import HandS.IsInst
import HandS.Wide
import HandS.TupAny
import HandS.Deep
import KE.DataMinMax
import KE.DataAny
import KE.DataCmp
import KE.DataFind
import KE.SortData
import PyProof.ReprRoads
import PyProof.CallFns
import HandS.Ends
import KE.GoesEnum
import HandS.Zip
import HandS.Comp
import HandS.Flow
import HandS.Defaults
import HandS.Style
import HandS.NoneIn
import PyProof.FitsInt
import PyProof.ReprLoop
import PySem.Challenge.RW_hoardsread_k28_units_within_units
set_option Elab.async false
set_option linter.all false
set_option maxRecDepth 100000
set_option maxHeartbeats 2000000
/-! FL1: a functional reading of the hand layer: data by value, live lists owned by slots. -/
namespace L2.FL
open PySem PySem.Spec PyProof.Rows L2

/-- what a slot holds: data; an own list that may still change; a caller's list that may change (the slot is never set) -/
inductive SV where
  | d (x : PyData)
  | l (xs : List PyData)
  | p (xs : List PyData)
abbrev En := List (Option SV)
/-- what an expression gives: data, or the live list of a slot -/
inductive RV where
  | d (x : PyData)
  | b (i : Nat)
def live (en : En) (i : Nat) : Option (List PyData) := match en[i]? with
  | some (some (.l xs)) => some xs
  | some (some (.p xs)) => some xs
  | _ => none
/-- the data that a result stands for now -/
def res (en : En) : RV → Option PyData
  | .d x => some x
  | .b i => (live en i).map .list

theorem same_sqt {K : PySem.W.Frag} {H H' : Hp} {a : Addr} {xs : List V} (e : Same H H') (h : SqT K H a xs) : SqT K H' a xs := by
  rcases h with (h | ⟨o, h⟩) | h
  · exact .inl (.inl (e _ _ h))
  · exact .inl (.inr ⟨o, e _ _ h⟩)
  · exact .inr h
theorem same_rd {K : PySem.W.Frag} {H H' : Hp} {a : Addr} {u : List V} (e : Same H H') (h : SqL K H a u) : SqL K H' a u := by
  rcases h with (h | ⟨o, h⟩) | h
  · exact .inl (.inl (e _ _ h))
  · exact .inl (.inr ⟨o, e _ _ h⟩)
  · exact .inr h
mutual
/-- a value of the heap, as data -/
inductive Dq (K : PySem.W.Frag) (H : Hp) : V → PyData → Prop
  | non : Dq K H .non .none
  | bl (b : Bool) : Dq K H (.bl b) (.bool b)
  | int (i : Int) : Dq K H (.int i) (.int i)
  | str (x : Str) : Dq K H (.str x) (.str x)
  | lst {a : Addr} {vs : List V} {ds : List PyData} : SqL K H a vs → DqAll K H vs ds → Dq K H (.ref a) (.list ds)
  | tup {a : Addr} {vs : List V} {ds : List PyData} : SqT K H a vs → DqAll K H vs ds → Dq K H (.ref a) (.tuple ds)
inductive DqAll (K : PySem.W.Frag) (H : Hp) : List V → List PyData → Prop
  | nil : DqAll K H [] []
  | cons {v : V} {vs : List V} {d : PyData} {ds : List PyData} : Dq K H v d → DqAll K H vs ds → DqAll K H (v :: vs) (d :: ds)
end
mutual
theorem dq_dp {K : PySem.W.Frag} {H : Hp} : ∀ (d : PyData) (v : V), Dq K H v d → Dp K H v d
  | .none, _, h => by cases h; exact .non
  | .bool b, _, h => by cases h; exact .bl b
  | .int i, _, h => by cases h; exact .int i
  | .str x, _, h => by cases h; exact .str x
  | .list ds, _, h => by
    cases h with
    | lst hs ha => exact .lst hs (dqa_dpa ds _ ha)
  | .tuple ds, _, h => by
    cases h with
    | tup hs ha => exact .tup hs (dqa_dpa ds _ ha)
  | .dict _, _, h => by cases h
theorem dqa_dpa {K : PySem.W.Frag} {H : Hp} : ∀ (ds : List PyData) (vs : List V), DqAll K H vs ds → DpAll K H vs ds
  | [], _, h => by cases h; exact .nil
  | d :: ds, _, h => by
    cases h with
    | cons h1 h2 => exact .cons (dq_dp d _ h1) (dqa_dpa ds _ h2)
end
mutual
theorem dp_mono {K : PySem.W.Frag} {H H' : Hp} (e : Same H H') : ∀ (d : PyData) (v : V), Dq K H v d → Dq K H' v d
  | .none, _, h => by cases h; exact .non
  | .bool b, _, h => by cases h; exact .bl b
  | .int i, _, h => by cases h; exact .int i
  | .str x, _, h => by cases h; exact .str x
  | .list ds, _, h => by
    cases h with
    | lst hs ha => exact .lst (same_rd e hs) (dpa_mono e ds _ ha)
  | .tuple ds, _, h => by
    cases h with
    | tup hs ha => exact .tup (same_sqt e hs) (dpa_mono e ds _ ha)
  | .dict _, _, h => by cases h
theorem dpa_mono {K : PySem.W.Frag} {H H' : Hp} (e : Same H H') : ∀ (ds : List PyData) (vs : List V), DqAll K H vs ds → DqAll K H' vs ds
  | [], _, h => by cases h; exact .nil
  | d :: ds, _, h => by
    cases h with
    | cons h1 h2 => exact .cons (dp_mono e d _ h1) (dpa_mono e ds _ h2)
end
theorem dpa_length {K : PySem.W.Frag} {H : Hp} : ∀ {ds : List PyData} {vs : List V}, DqAll K H vs ds → vs.length = ds.length
  | [], _, h => by cases h; rfl
  | d :: ds, _, h => by
    cases h with
    | cons h1 h2 => simp [dpa_length h2]
theorem dpa_get {K : PySem.W.Frag} {H : Hp} : ∀ {ds : List PyData} {vs : List V} {i : Nat} {x : PyData}, DqAll K H vs ds → ds[i]? = some x → ∃ v, vs[i]? = some v ∧ Dq K H v x
  | [], _, i, x, h, e => by simp at e
  | d :: ds, _, 0, x, h, e => by
    cases h with
    | cons h1 h2 =>
      simp at e
      subst e
      exact ⟨_, rfl, h1⟩
  | d :: ds, _, i + 1, x, h, e => by
    cases h with
    | cons h1 h2 =>
      obtain ⟨v, e1, e2⟩ := dpa_get (i := i) (x := x) h2 (by simpa using e)
      exact ⟨v, by simpa using e1, e2⟩
theorem dpa_app {K : PySem.W.Frag} {H : Hp} : ∀ {ds es : List PyData} {vs ws : List V}, DqAll K H vs ds → DqAll K H ws es → DqAll K H (vs ++ ws) (ds ++ es)
  | [], _, _, _, h, k => by cases h; exact k
  | d :: ds, _, _, _, h, k => by
    cases h with
    | cons h1 h2 => exact .cons h1 (dpa_app h2 k)
theorem dpa_take {K : PySem.W.Frag} {H : Hp} : ∀ (n : Nat) {ds : List PyData} {vs : List V}, DqAll K H vs ds → DqAll K H (vs.take n) (ds.take n)
  | 0, _, _, _ => .nil
  | n + 1, [], _, h => by cases h; exact .nil
  | n + 1, d :: ds, _, h => by
    cases h with
    | cons h1 h2 => exact .cons h1 (dpa_take n h2)
theorem dpa_drop {K : PySem.W.Frag} {H : Hp} : ∀ (n : Nat) {ds : List PyData} {vs : List V}, DqAll K H vs ds → DqAll K H (vs.drop n) (ds.drop n)
  | 0, _, _, h => h
  | n + 1, [], _, h => by cases h; exact .nil
  | n + 1, d :: ds, _, h => by
    cases h with
    | cons h1 h2 => exact dpa_drop n h2
theorem dpa_set {K : PySem.W.Frag} {H : Hp} {v : V} {x : PyData} (hx : Dq K H v x) : ∀ (n : Nat) {ds : List PyData} {vs : List V}, DqAll K H vs ds → DqAll K H (vs.set n v) (ds.set n x)
  | _, [], _, h => by cases h; exact .nil
  | 0, d :: ds, _, h => by
    cases h with
    | cons h1 h2 => exact .cons hx h2
  | n + 1, d :: ds, _, h => by
    cases h with
    | cons h1 h2 => exact .cons h1 (dpa_set hx n h2)
theorem dpa_ints {K : PySem.W.Frag} {H : Hp} : ∀ {ns : List Int} {vs : List V}, DqAll K H vs (ns.map .int) → vs = ns.map V.int
  | [], _, h => by cases h; rfl
  | n :: ns, _, h => by
    cases h with
    | cons h1 h2 =>
      cases h1
      rw [dpa_ints h2]
      rfl
theorem dpa_of_ints {K : PySem.W.Frag} {H : Hp} : ∀ (ns : List Int), DqAll K H (ns.map V.int) (ns.map .int)
  | [] => .nil
  | n :: ns => .cons (.int n) (dpa_of_ints ns)
theorem dpa_bls {K : PySem.W.Frag} {H : Hp} : ∀ {ns : List Bool} {vs : List V}, DqAll K H vs (ns.map .bool) → vs = ns.map V.bl
  | [], _, h => by cases h; rfl
  | n :: ns, _, h => by
    cases h with
    | cons h1 h2 =>
      cases h1
      rw [dpa_bls h2]
      rfl

/-- readable now: as data for good, or as a list as it stands -/
inductive DpR (K : PySem.W.Frag) (F H : Hp) : V → PyData → Prop
  | old {v : V} {x : PyData} : Dq K F v x → DpR K F H v x
  | cur {a : Addr} {vs : List V} {xs : List PyData} : H a = some (.lst vs) → DqAll K F vs xs → DpR K F H (.ref a) (.list xs)
theorem DpR.now {K : PySem.W.Frag} {F H : Hp} {v : V} {x : PyData} (s : Same F H) (h : DpR K F H v x) : Dq K H v x := by
  cases h with
  | old h => exact dp_mono s _ _ h
  | cur h k => exact .lst (.of h) (dpa_mono s _ _ k)
theorem DpR.list {K : PySem.W.Frag} {F H : Hp} {v : V} {xs : List PyData} (s : Same F H) (h : DpR K F H v (.list xs)) : ∃ a vs, v = .ref a ∧ SqL K H a vs ∧ DqAll K F vs xs := by
  cases h with
  | old h =>
    cases h with
    | lst hs ha => exact ⟨_, _, rfl, same_rd s hs, ha⟩
  | cur h k => exact ⟨_, _, rfl, .of h, k⟩
theorem DpR.tuple {K : PySem.W.Frag} {F H : Hp} {v : V} {xs : List PyData} (s : Same F H) (h : DpR K F H v (.tuple xs)) : ∃ a vs, v = .ref a ∧ SqT K H a vs ∧ DqAll K F vs xs := by
  cases h with
  | old h =>
    cases h with
    | tup hs ha => exact ⟨_, _, rfl, same_sqt s hs, ha⟩
theorem DpR.int {K : PySem.W.Frag} {F H : Hp} {v : V} {i : Int} (h : DpR K F H v (.int i)) : v = .int i := by
  cases h with
  | old h => cases h; rfl
theorem DpR.bool {K : PySem.W.Frag} {F H : Hp} {v : V} {i : Bool} (h : DpR K F H v (.bool i)) : v = .bl i := by
  cases h with
  | old h => cases h; rfl
theorem DpR.str {K : PySem.W.Frag} {F H : Hp} {v : V} {i : Str} (h : DpR K F H v (.str i)) : v = .str i := by
  cases h with
  | old h => cases h; rfl
theorem DpR.none {K : PySem.W.Frag} {F H : Hp} {v : V} (h : DpR K F H v .none) : v = .non := by
  cases h with
  | old h => cases h; rfl

/-- F: what never changes again; G: what a caller keeps; P: the places of a caller's lists -/
structure Wd where
  F : Hp
  G : Hp
  P : List (Nat × Addr)
structure Ext (W W' : Wd) : Prop where
  F : Same W.F W'.F
  G : W'.G = W.G
  P : W'.P = W.P
theorem Ext.refl (W : Wd) : Ext W W := ⟨Same.refl _, rfl, rfl⟩
theorem Ext.trans {A B C : Wd} (a : Ext A B) (b : Ext B C) : Ext A C := ⟨a.F.trans b.F, b.G.trans a.G, b.P.trans a.P⟩

structure R (K : PySem.W.Frag) (W : Wd) (σ : St) (H : Hp) (en : En) : Prop where
  len : σ.length = en.length
  subF : Same W.F H
  subG : Same W.G H
  dis : ∀ a o, W.F a = some o → W.G a = none
  dat : ∀ (i : Nat) (x : PyData), en[i]? = some (some (.d x)) → ∃ v, σ[i]? = some (some v) ∧ Dq K W.F v x
  liv : ∀ (i : Nat) (xs : List PyData), live en i = some xs → ∃ a vs, σ[i]? = some (some (.ref a)) ∧ H a = some (.lst vs) ∧ DqAll K W.F vs xs ∧ W.F a = none ∧ W.G a = none
  sep : ∀ (i j : Nat) (a : Addr) (xs ys : List PyData), live en i = some xs → live en j = some ys → σ[i]? = some (some (.ref a)) → σ[j]? = some (some (.ref a)) → i = j
  par : ∀ q ∈ W.P, σ[q.1]? = some (some (.ref q.2)) ∧ ∃ xs, en[q.1]? = some (some (.p xs))

section
variable {K : PySem.W.Frag} {W : Wd} {σ : St} {H : Hp} {en : En}
theorem R.freshF (r : R K W σ H en) {p : Addr} (h : H p = none) : W.F p = none := r.subF.free h
theorem R.freshG (r : R K W σ H en) {p : Addr} (h : H p = none) : W.G p = none := r.subG.free h
theorem same_new {F : Hp} {p : Addr} {o : HO} (h : F p = none) : Same F (upd F p o) := fun b x e => by
  rw [upd_ne (ne_of_none e h)]
  exact e
/-- a new thing laid for good -/
theorem R.alloc (r : R K W σ H en) {p : Addr} (o : HO) (h : H p = none) : R K { W with F := upd W.F p o } σ (upd H p o) en := by
  have hF := r.freshF h
  have sF : Same W.F (upd W.F p o) := same_new hF
  refine ⟨r.len, fun a x e => ?_, fun a x e => ?_, fun a x e => ?_, fun i x e => ?_, fun i xs e => ?_, r.sep, r.par⟩
  · by_cases q : a = p
    · subst q
      have e' : upd W.F a o a = some x := e
      rw [upd_same] at e' ⊢
      exact e'
    · have e' : upd W.F p o a = some x := e
      rw [upd_ne q] at e' ⊢
      exact r.subF _ _ e'
  · have q : a ≠ p := ne_of_none e (r.freshG h)
    rw [upd_ne q]
    exact r.subG _ _ e
  · by_cases q : a = p
    · subst q
      exact r.freshG h
    · have e' : upd W.F p o a = some x := e
      rw [upd_ne q] at e'
      exact r.dis _ _ e'
  · obtain ⟨v, h1, h2⟩ := r.dat i x e
    exact ⟨v, h1, dp_mono sF _ _ h2⟩
  · obtain ⟨a, vs, h1, h2, h3, h4, h5⟩ := r.liv i xs e
    have q : a ≠ p := ne_of_none h2 h
    refine ⟨a, vs, h1, ?_, dpa_mono sF _ _ h3, ?_, h5⟩
    · rw [upd_ne q]; exact h2
    · show upd W.F p o a = none
      rw [upd_ne q]; exact h4
/-- a new thing laid that is not yet kept for good -/
theorem R.laid (r : R K W σ H en) {p : Addr} (o : HO) (h : H p = none) : R K W σ (upd H p o) en := by
  have sH : Same H (upd H p o) := same_new h
  refine ⟨r.len, r.subF.trans sH, r.subG.trans sH, r.dis, r.dat, fun i xs e => ?_, r.sep, r.par⟩
  obtain ⟨a, vs, h1, h2, h3, h4, h5⟩ := r.liv i xs e
  exact ⟨a, vs, h1, sH _ _ h2, h3, h4, h5⟩
/-- no live slot has it -/
def Unowned (σ : St) (en : En) (a : Addr) : Prop := ∀ (i : Nat) (xs : List PyData), live en i = some xs → σ[i]? ≠ some (some (.ref a))
theorem R.unowned (r : R K W σ H en) {p : Addr} (h : H p = none) : Unowned σ en p := fun i xs e q => by
  obtain ⟨a, vs, h1, h2, _⟩ := r.liv i xs e
  rw [h1] at q
  cases q
  rw [h] at h2
  cases h2
/-- what nobody owns is kept for good -/
theorem R.keep (r : R K W σ H en) {p : Addr} {o : HO} (h : H p = some o) (hF : W.F p = none) (hG : W.G p = none) (hu : Unowned σ en p) : R K { W with F := upd W.F p o } σ H en := by
  have sF : Same W.F (upd W.F p o) := same_new hF
  refine ⟨r.len, fun a x e => ?_, r.subG, fun a x e => ?_, fun i x e => ?_, fun i xs e => ?_, r.sep, r.par⟩
  · by_cases q : a = p
    · subst q
      have e' : upd W.F a o a = some x := e
      rw [upd_same] at e'
      rw [h]; exact e'
    · have e' : upd W.F p o a = some x := e
      rw [upd_ne q] at e'
      exact r.subF _ _ e'
  · by_cases q : a = p
    · subst q
      exact hG
    · have e' : upd W.F p o a = some x := e
      rw [upd_ne q] at e'
      exact r.dis _ _ e'
  · obtain ⟨v, h1, h2⟩ := r.dat i x e
    exact ⟨v, h1, dp_mono sF _ _ h2⟩
  · obtain ⟨a, vs, h1, h2, h3, h4, h5⟩ := r.liv i xs e
    have q : a ≠ p := fun z => hu i xs e (by rw [← z]; exact h1)
    refine ⟨a, vs, h1, h2, dpa_mono sF _ _ h3, ?_, h5⟩
    show upd W.F p o a = none
    rw [upd_ne q]; exact h4
theorem ext_new (r : R K W σ H en) {p : Addr} (o : HO) (hF : W.F p = none) : Ext W { W with F := upd W.F p o } := ⟨same_new hF, rfl, rfl⟩

/-- the slot may be set -/
def open_ (en : En) (i : Nat) : Bool := match en[i]? with
  | some (some (.p _)) => false
  | none => false
  | _ => true
def setS (en : En) (i : Nat) (s : SV) : Option En := if open_ en i then some (en.set i (some s)) else none
theorem open_lt {en : En} {i : Nat} (h : open_ en i = true) : i < en.length := by
  unfold open_ at h
  split at h
  · cases h
  · cases h
  · rename_i x h1 h2
    exact Decidable.byContradiction fun q => h2 (List.getElem?_eq_none (by omega))
theorem live_set_ne {en : En} {i j : Nat} {s : Option SV} (h : j ≠ i) : live (en.set i s) j = live en j := by
  unfold live
  rw [List.getElem?_set_ne (Ne.symm h)]
theorem live_set_d {en : En} {i : Nat} {x : PyData} : live (en.set i (some (.d x))) i = none := by
  unfold live
  by_cases h : i < en.length
  · rw [List.getElem?_set_self h]
  · rw [List.getElem?_eq_none (by simpa using h)]
theorem live_set_n {en : En} {i : Nat} : live (en.set i none) i = none := by
  unfold live
  by_cases h : i < en.length
  · rw [List.getElem?_set_self h]
  · rw [List.getElem?_eq_none (by simpa using h)]
theorem live_lt {en : En} {i : Nat} {xs : List PyData} (h : live en i = some xs) : i < en.length := by
  unfold live at h
  refine Decidable.byContradiction fun q => ?_
  rw [List.getElem?_eq_none (by omega)] at h
  cases h
theorem live_l {en : En} {i : Nat} {xs : List PyData} (h : en[i]? = some (some (.l xs))) : live en i = some xs := by
  unfold live; rw [h]
theorem live_p {en : En} {i : Nat} {xs : List PyData} (h : en[i]? = some (some (.p xs))) : live en i = some xs := by
  unfold live; rw [h]
theorem open_ne_p {en : En} {i : Nat} {xs : List PyData} (h : open_ en i = true) : en[i]? ≠ some (some (.p xs)) := fun e => by
  unfold open_ at h
  rw [e] at h
  cases h
/-- slot i := data -/
theorem R.setD (r : R K W σ H en) {i : Nat} {v : V} {x : PyData} (ho : open_ en i = true) (h : Dq K W.F v x) : R K W (σ.set i (some v)) H (en.set i (some (.d x))) := by
  have hl := open_lt ho
  have hσ : i < σ.length := by rw [r.len]; exact hl
  refine ⟨by simp [r.len], r.subF, r.subG, r.dis, fun j y e => ?_, fun j xs e => ?_, fun j k a xs ys e1 e2 f1 f2 => ?_, fun q hq => ?_⟩
  · by_cases z : j = i
    · subst z
      rw [List.getElem?_set_self hl] at e
      cases e
      exact ⟨v, List.getElem?_set_self hσ, h⟩
    · rw [List.getElem?_set_ne (Ne.symm z)] at e ⊢
      exact r.dat j y e
  · by_cases z : j = i
    · subst z
      rw [live_set_d] at e
      cases e
    · rw [live_set_ne z] at e
      rw [List.getElem?_set_ne (Ne.symm z)]
      exact r.liv j xs e
  · have z1 : j ≠ i := fun z => by subst z; rw [live_set_d] at e1; cases e1
    have z2 : k ≠ i := fun z => by subst z; rw [live_set_d] at e2; cases e2
    rw [live_set_ne z1] at e1
    rw [live_set_ne z2] at e2
    rw [List.getElem?_set_ne (Ne.symm z1)] at f1
    rw [List.getElem?_set_ne (Ne.symm z2)] at f2
    exact r.sep j k a xs ys e1 e2 f1 f2
  · obtain ⟨h1, xs, h2⟩ := r.par q hq
    have z : q.1 ≠ i := fun z => open_ne_p ho (by rw [← z]; exact h2)
    exact ⟨by rw [List.getElem?_set_ne (Ne.symm z)]; exact h1, xs, by rw [List.getElem?_set_ne (Ne.symm z)]; exact h2⟩
/-- slot i forgotten -/
theorem R.wipe1 (r : R K W σ H en) {i : Nat} (ho : ∀ xs : List PyData, en[i]? ≠ some (some (.p xs))) : R K W (σ.set i none) H (en.set i none) := by
  refine ⟨by simp [r.len], r.subF, r.subG, r.dis, fun j y e => ?_, fun j xs e => ?_, fun j k a xs ys e1 e2 f1 f2 => ?_, fun q hq => ?_⟩
  · by_cases z : j = i
    · subst z
      by_cases hl : j < en.length
      · rw [List.getElem?_set_self hl] at e
        cases e
      · rw [List.getElem?_eq_none (by simpa using hl)] at e
        cases e
    · rw [List.getElem?_set_ne (Ne.symm z)] at e ⊢
      exact r.dat j y e
  · by_cases z : j = i
    · subst z
      rw [live_set_n] at e
      cases e
    · rw [live_set_ne z] at e
      rw [List.getElem?_set_ne (Ne.symm z)]
      exact r.liv j xs e
  · have z1 : j ≠ i := fun z => by subst z; rw [live_set_n] at e1; cases e1
    have z2 : k ≠ i := fun z => by subst z; rw [live_set_n] at e2; cases e2
    rw [live_set_ne z1] at e1
    rw [live_set_ne z2] at e2
    rw [List.getElem?_set_ne (Ne.symm z1)] at f1
    rw [List.getElem?_set_ne (Ne.symm z2)] at f2
    exact r.sep j k a xs ys e1 e2 f1 f2
  · obtain ⟨h1, xs, h2⟩ := r.par q hq
    have z : q.1 ≠ i := fun z => ho xs (by rw [← z]; exact h2)
    exact ⟨by rw [List.getElem?_set_ne (Ne.symm z)]; exact h1, xs, by rw [List.getElem?_set_ne (Ne.symm z)]; exact h2⟩
theorem live_set_l {en : En} {i : Nat} {xs : List PyData} (h : i < en.length) : live (en.set i (some (.l xs))) i = some xs := by
  unfold live
  rw [List.getElem?_set_self h]
theorem live_set_p {en : En} {i : Nat} {xs : List PyData} (h : i < en.length) : live (en.set i (some (.p xs))) i = some xs := by
  unfold live
  rw [List.getElem?_set_self h]
/-- slot i := an own list that nobody has -/
theorem R.setL (r : R K W σ H en) {i : Nat} {a : Addr} {vs : List V} {xs : List PyData} (ho : open_ en i = true) (h : H a = some (.lst vs)) (hv : DqAll K W.F vs xs) (hF : W.F a = none) (hG : W.G a = none) (hu : Unowned σ en a) :
    R K W (σ.set i (some (.ref a))) H (en.set i (some (.l xs))) := by
  have hl := open_lt ho
  have hσ : i < σ.length := by rw [r.len]; exact hl
  refine ⟨by simp [r.len], r.subF, r.subG, r.dis, fun j y e => ?_, fun j ys e => ?_, fun j k b ys zs e1 e2 f1 f2 => ?_, fun q hq => ?_⟩
  · by_cases z : j = i
    · subst z
      rw [List.getElem?_set_self hl] at e
      cases e
    · rw [List.getElem?_set_ne (Ne.symm z)] at e ⊢
      exact r.dat j y e
  · by_cases z : j = i
    · subst z
      rw [live_set_l hl] at e
      cases e
      exact ⟨a, vs, List.getElem?_set_self hσ, h, hv, hF, hG⟩
    · rw [live_set_ne z] at e
      rw [List.getElem?_set_ne (Ne.symm z)]
      exact r.liv j ys e
  · by_cases z1 : j = i
    · subst z1
      rw [List.getElem?_set_self hσ] at f1
      cases f1
      by_cases z2 : k = j
      · exact z2.symm
      · rw [live_set_ne z2] at e2
        rw [List.getElem?_set_ne (Ne.symm z2)] at f2
        exact absurd f2 (hu k zs e2)
    · rw [live_set_ne z1] at e1
      rw [List.getElem?_set_ne (Ne.symm z1)] at f1
      by_cases z2 : k = i
      · subst z2
        rw [List.getElem?_set_self hσ] at f2
        cases f2
        exact absurd f1 (hu j ys e1)
      · rw [live_set_ne z2] at e2
        rw [List.getElem?_set_ne (Ne.symm z2)] at f2
        exact r.sep j k b ys zs e1 e2 f1 f2
  · obtain ⟨h1, ys, h2⟩ := r.par q hq
    have z : q.1 ≠ i := fun z => open_ne_p ho (by rw [← z]; exact h2)
    exact ⟨by rw [List.getElem?_set_ne (Ne.symm z)]; exact h1, ys, by rw [List.getElem?_set_ne (Ne.symm z)]; exact h2⟩

/-- the live list of slot i becomes xs -/
def putL (en : En) (i : Nat) (xs : List PyData) : En := match en[i]? with
  | some (some (.l _)) => en.set i (some (.l xs))
  | some (some (.p _)) => en.set i (some (.p xs))
  | _ => en
theorem putL_length (en : En) (i : Nat) (xs : List PyData) : (putL en i xs).length = en.length := by
  unfold putL
  split <;> simp
theorem putL_ne {en : En} {i j : Nat} {xs : List PyData} (h : j ≠ i) : (putL en i xs)[j]? = en[j]? := by
  unfold putL
  split
  · rw [List.getElem?_set_ne (Ne.symm h)]
  · rw [List.getElem?_set_ne (Ne.symm h)]
  · rfl
theorem live_putL_ne {en : En} {i j : Nat} {xs : List PyData} (h : j ≠ i) : live (putL en i xs) j = live en j := by
  unfold live
  rw [putL_ne h]
theorem live_putL {en : En} {i : Nat} {xs ys : List PyData} (h : live en i = some ys) : live (putL en i xs) i = some xs := by
  have hl := live_lt h
  unfold live at h
  unfold putL
  split at h
  · exact live_set_l hl
  · exact live_set_p hl
  · cases h
theorem putL_p {en : En} {i : Nat} {xs ys : List PyData} (h : en[i]? = some (some (.p ys))) : (putL en i xs)[i]? = some (some (.p xs)) := by
  have hl := live_lt (live_p h)
  unfold putL
  rw [h]
  exact List.getElem?_set_self hl
theorem putL_d {en : En} {i j : Nat} {xs ys : List PyData} {x : PyData} (h : live en i = some ys) (e : (putL en i xs)[j]? = some (some (.d x))) : en[j]? = some (some (.d x)) := by
  by_cases z : j = i
  · subst z
    have hl := live_lt h
    unfold live at h
    unfold putL at e
    split at h
    · rename_i zs e1
      rw [e1] at e
      simp only at e
      rw [List.getElem?_set_self hl] at e
      cases e
    · rename_i zs e1
      rw [e1] at e
      simp only at e
      rw [List.getElem?_set_self hl] at e
      cases e
    · cases h
  · rw [putL_ne z] at e
    exact e
/-- the live list at slot i is changed -/
theorem R.put (r : R K W σ H en) {i : Nat} {a : Addr} {vs : List V} {xs ys : List PyData} (h : live en i = some ys) (ha : σ[i]? = some (some (.ref a))) (hv : DqAll K W.F vs xs) :
    R K W σ (upd H a (.lst vs)) (putL en i xs) := by
  obtain ⟨a', vs', h1, h2, h3, h4, h5⟩ := r.liv i ys h
  rw [ha] at h1
  cases h1
  have neF : ∀ b o, W.F b = some o → b ≠ a := fun b o e => ne_of_none e h4
  have neG : ∀ b o, W.G b = some o → b ≠ a := fun b o e => ne_of_none e h5
  refine ⟨by rw [putL_length]; exact r.len, fun b o e => ?_, fun b o e => ?_, r.dis, fun j y e => r.dat j y (putL_d h e), fun j zs e => ?_, fun j k b zs ws e1 e2 f1 f2 => ?_, fun q hq => ?_⟩
  · rw [upd_ne (neF b o e)]; exact r.subF _ _ e
  · rw [upd_ne (neG b o e)]; exact r.subG _ _ e
  · by_cases z : j = i
    · subst z
      rw [live_putL h] at e
      cases e
      exact ⟨a, vs, ha, upd_same, hv, h4, h5⟩
    · rw [live_putL_ne z] at e
      obtain ⟨b, ws, g1, g2, g3, g4, g5⟩ := r.liv j zs e
      have ne : b ≠ a := fun q => z (r.sep j i a zs ys e h (by rw [← q]; exact g1) ha)
      exact ⟨b, ws, g1, by rw [upd_ne ne]; exact g2, g3, g4, g5⟩
  · have l1 : ∃ zs', live en j = some zs' := by
      by_cases z : j = i
      · subst z; exact ⟨_, h⟩
      · rw [live_putL_ne z] at e1; exact ⟨_, e1⟩
    have l2 : ∃ zs', live en k = some zs' := by
      by_cases z : k = i
      · subst z; exact ⟨_, h⟩
      · rw [live_putL_ne z] at e2; exact ⟨_, e2⟩
    obtain ⟨_, l1⟩ := l1
    obtain ⟨_, l2⟩ := l2
    exact r.sep j k b _ _ l1 l2 f1 f2
  · obtain ⟨g1, zs, g2⟩ := r.par q hq
    refine ⟨g1, ?_⟩
    by_cases z : q.1 = i
    · rw [z] at g2 ⊢
      exact ⟨xs, putL_p g2⟩
    · rw [putL_ne z]
      exact ⟨zs, g2⟩
/-- what a result stands for is readable -/
def RVal (K : PySem.W.Frag) (F : Hp) (σ : St) (v : V) : RV → Prop
  | .d x => Dq K F v x
  | .b i => σ[i]? = some (some v)
theorem RVal.mono {F F' : Hp} {v : V} {r : RV} (s : Same F F') (h : RVal K F σ v r) : RVal K F' σ v r := by
  cases r with
  | d x => exact dp_mono s _ _ h
  | b i => exact h
theorem R.res (r : R K W σ H en) {v : V} {q : RV} {x : PyData} (h : RVal K W.F σ v q) (e : res en q = some x) : DpR K W.F H v x := by
  cases q with
  | d y =>
    cases e
    exact .old h
  | b i =>
    have e : (live en i).map PyData.list = some x := e
    cases hl : live en i with
    | none => rw [hl] at e; cases e
    | some xs =>
      rw [hl] at e
      cases e
      obtain ⟨a, vs, h1, h2, h3, _⟩ := r.liv i xs hl
      have hv : σ[i]? = some (some v) := h
      rw [h1] at hv
      cases hv
      exact .cur h2 h3
end
end L2.FL
set_option Elab.async false
set_option linter.all false
set_option maxRecDepth 100000
set_option maxHeartbeats 2000000
/-! FL2: expressions, tests, arguments, with their functional readings. -/
namespace L2.FL
open PySem PySem.Spec PyProof.Rows L2

abbrev EF := En → Option (RV × En)
abbrev TF := En → Option (Bool × En)
abbrev AF := En → Option (List RV × En)
abbrev LF := En → Option (List PyData × En)

inductive RVals (K : PySem.W.Frag) (F : Hp) (σ : St) : List V → List RV → Prop
  | nil : RVals K F σ [] []
  | cons {v : V} {vs : List V} {r : RV} {rs : List RV} : RVal K F σ v r → RVals K F σ vs rs → RVals K F σ (v :: vs) (r :: rs)
theorem RVals.mono {K : PySem.W.Frag} {F F' : Hp} {σ : St} (s : Same F F') : ∀ {vs : List V} {rs : List RV}, RVals K F σ vs rs → RVals K F' σ vs rs
  | _, _, .nil => .nil
  | _, _, .cons h t => .cons (h.mono s) (t.mono s)

def SEt (K : PySem.W.Frag) (t : TE) (f : EF) : Prop := ∀ (W : Wd) (σ : St) (H : Hp) (en : En) (r : RV) (en' : En) (Q : VK), R K W σ H en → f en = some (r, en') →
  (∀ v W' H', Ext W W' → R K W' σ H' en' → RVal K W'.F σ v r → Q v H') → t σ H Q
def STt (K : PySem.W.Frag) (t : TT) (f : TF) : Prop := ∀ (W : Wd) (σ : St) (H : Hp) (en : En) (r : Bool) (en' : En) (Q : Bool → Hp → Prop), R K W σ H en → f en = some (r, en') →
  (∀ W' H', Ext W W' → R K W' σ H' en' → Q r H') → t σ H Q
def SAt (K : PySem.W.Frag) (t : TA) (f : AF) : Prop := ∀ (W : Wd) (σ : St) (H : Hp) (en : En) (r : List RV) (en' : En) (Q : List V → Hp → Prop), R K W σ H en → f en = some (r, en') →
  (∀ vs W' H', Ext W W' → R K W' σ H' en' → RVals K W'.F σ vs r → Q vs H') → t σ H Q
/-- a new list that nobody has -/
def SLt (K : PySem.W.Frag) (t : TE) (f : LF) : Prop := ∀ (W : Wd) (σ : St) (H : Hp) (en : En) (xs : List PyData) (en' : En) (Q : VK), R K W σ H en → f en = some (xs, en') →
  (∀ a vs W' H', Ext W W' → R K W' σ H' en' → H' a = some (.lst vs) → DqAll K W'.F vs xs → W'.F a = none → W'.G a = none → Unowned σ en' a → Q (.ref a) H') → t σ H Q
structure SE (X : Cx) (e : Expr) (f : EF) : Prop where
  run : ∃ t, PE X e t ∧ SEt X.K t f
structure ST (X : Cx) (e : Expr) (f : TF) : Prop where
  run : ∃ t, PT X e t ∧ STt X.K t f
structure SW (X : Cx) (e : Expr) (f : TF) : Prop where
  run : ∃ t, PW X e t ∧ STt X.K t f
structure SA (X : Cx) (es : List Expr) (f : AF) : Prop where
  run : ∃ t, PA X es t ∧ SAt X.K t f
structure SL (X : Cx) (e : Expr) (f : LF) : Prop where
  run : ∃ t, PE X e t ∧ SLt X.K t f

/-! ### the readings as functions -/
def fVar (i : Nat) : EF := fun en => match en[i]? with
  | some (some (.d x)) => some (.d x, en)
  | some (some (.l _)) => some (.b i, en)
  | some (some (.p _)) => some (.b i, en)
  | _ => none
def fC (x : PyData) : EF := fun en => some (.d x, en)
/-- the own list of slot i, kept for good from here on -/
def fFrz (i : Nat) : EF := fun en => match en[i]? with
  | some (some (.l xs)) => some (.d (.list xs), en.set i (some (.d (.list xs))))
  | some (some (.d x)) => some (.d x, en)
  | _ => none
def fOfL (f : LF) : EF := fun en => (f en).bind fun p => some (.d (.list p.1), p.2)
def f1 (o : PyData → Option PyData) (f : EF) : EF := fun en => (f en).bind fun p => (res p.2 p.1).bind fun x => (o x).bind fun z => some (.d z, p.2)
def f2 (o : PyData → PyData → Option PyData) (f g : EF) : EF := fun en => (f en).bind fun p => (g p.2).bind fun q => (res q.2 p.1).bind fun x => (res q.2 q.1).bind fun y => (o x y).bind fun z => some (.d z, q.2)
def fNil : AF := fun en => some ([], en)
def fCons (f : EF) (g : AF) : AF := fun en => (f en).bind fun p => (g p.2).bind fun q => some (p.1 :: q.1, q.2)
def resL (en : En) : List RV → Option (List PyData)
  | [] => some []
  | r :: rs => (res en r).bind fun x => (resL en rs).bind fun xs => some (x :: xs)
/-- the data of plain results -/
def datL : List RV → Option (List PyData)
  | [] => some []
  | .d x :: rs => (datL rs).bind fun xs => some (x :: xs)
  | .b _ :: _ => none
def fB (o : List PyData → Option PyData) (f : AF) : EF := fun en => (f en).bind fun p => (resL p.2 p.1).bind fun xs => (o xs).bind fun z => some (.d z, p.2)
def fTup (f : AF) : EF := fun en => (f en).bind fun p => (datL p.1).bind fun xs => if xs.length ≤ sizeLine then some (.d (.tuple xs), p.2) else none
def fLst (f : AF) : LF := fun en => (f en).bind fun p => (datL p.1).bind fun xs => if xs.length ≤ sizeLine then some (xs, p.2) else none
def fBool (f : EF) : TF := fun en => (f en).bind fun p => (res p.2 p.1).bind fun x => match x with
  | .bool b => some (b, p.2)
  | _ => none
def tru : PyData → Option Bool
  | .none => some false
  | .bool b => some b
  | .int i => some (i != 0)
  | .str s => if s.length ≤ sizeLine then some ((s.length : Int) != 0) else none
  | .list xs => some (!xs.isEmpty)
  | .tuple xs => some (!xs.isEmpty)
  | .dict _ => none
def fTru (f : EF) : TF := fun en => (f en).bind fun p => (res p.2 p.1).bind fun x => (tru x).bind fun b => some (b, p.2)
def fAnd (f g : TF) : TF := fun en => (f en).bind fun p => if p.1 = true then g p.2 else some (false, p.2)
def fOr (f g : TF) : TF := fun en => (f en).bind fun p => if p.1 = true then some (true, p.2) else g p.2
def fNot (f : TF) : TF := fun en => (f en).bind fun p => some (!p.1, p.2)
def fIfE (c : TF) (f g : EF) : EF := fun en => (c en).bind fun p => if p.1 = true then f p.2 else g p.2
def fAndV (f g : EF) : EF := fun en => (f en).bind fun p => match p.1 with
  | .d (.bool b) => if b = true then g p.2 else some (.d (.bool false), p.2)
  | _ => none
def fOrV (f g : EF) : EF := fun en => (f en).bind fun p => match p.1 with
  | .d (.bool b) => if b = true then some (.d (.bool true), p.2) else g p.2
  | _ => none
def fNotV (f : EF) : EF := fun en => (f en).bind fun p => match p.1 with
  | .d (.bool b) => some (.d (.bool (!b)), p.2)
  | _ => none
def isN : PyData → Bool
  | .none => true
  | _ => false
def fIsN (f : EF) : EF := fun en => (f en).bind fun p => (res p.2 p.1).bind fun x => some (.d (.bool (isN x)), p.2)
def fNotN (f : EF) : EF := fun en => (f en).bind fun p => (res p.2 p.1).bind fun x => some (.d (.bool (!isN x)), p.2)
def fChain (o o' : PyData → PyData → Option PyData) (f g h : EF) : EF := fun en => (f en).bind fun p => (g p.2).bind fun q => (res q.2 p.1).bind fun x => (res q.2 q.1).bind fun y => (o x y).bind fun z => match z with
  | .bool true => (h q.2).bind fun s => (res s.2 q.1).bind fun y' => (res s.2 s.1).bind fun u => (o' y' u).bind fun t => some (.d t, s.2)
  | .bool false => some (.d (.bool false), q.2)
  | _ => none

section
variable {X : Cx}
/-! ### the rules -/
theorem se_var (i : Nat) {x : Str} {pos : Pos} (hN : X.N[i]? = some x := by rfl) (hv : Vis X.env.scope x := by first | exact Or.inl rfl | exact Or.inr (Or.inl rfl) | exact Or.inr (Or.inr rfl)) (hd : (x == ("__debug__" : Str)) = false := by decide)
    (hcd : (x == ("__classdict__" : Str)) = false := by decide) : SE X (.Name x pos) (fVar i) := by
  refine ⟨tVar i, pe_var hN hv hd hcd, fun W σ H en r en' Q hR hf q => ?_⟩
  unfold fVar at hf
  split at hf
  · rename_i y e
    cases hf
    obtain ⟨v, h1, h2⟩ := hR.dat i y e
    exact ⟨v, h1, q v W H (Ext.refl _) hR h2⟩
  · rename_i y e
    cases hf
    obtain ⟨a, vs, h1, _⟩ := hR.liv i y (live_l e)
    exact ⟨.ref a, h1, q _ W H (Ext.refl _) hR h1⟩
  · rename_i y e
    cases hf
    obtain ⟨a, vs, h1, _⟩ := hR.liv i y (live_p e)
    exact ⟨.ref a, h1, q _ W H (Ext.refl _) hR h1⟩
  · cases hf
theorem set_self_id {α : Type} {l : List α} {i : Nat} {x : α} (h : l[i]? = some x) : l.set i x = l := by
  apply List.ext_getElem?
  intro j
  by_cases z : j = i
  · subst z
    obtain ⟨hl, _⟩ := List.getElem?_eq_some_iff.mp h
    rw [List.getElem?_set_self hl, h]
  · rw [List.getElem?_set_ne (Ne.symm z)]
theorem R.freeze {K : PySem.W.Frag} {W : Wd} {σ : St} {H : Hp} {en : En} (r : R K W σ H en) {i : Nat} {xs : List PyData} (e : en[i]? = some (some (.l xs))) :
    ∃ a W', σ[i]? = some (some (.ref a)) ∧ Ext W W' ∧ R K W' σ H (en.set i (some (.d (.list xs)))) ∧ Dq K W'.F (.ref a) (.list xs) := by
  obtain ⟨a, vs, h1, h2, h3, h4, h5⟩ := r.liv i xs (live_l e)
  have r1 : R K W (σ.set i none) H (en.set i none) := r.wipe1 fun ys z => by rw [e] at z; cases z
  have hu : Unowned (σ.set i none) (en.set i none) a := fun j ys hj q => by
    have z : j ≠ i := fun z => by subst z; rw [live_set_n] at hj; cases hj
    rw [live_set_ne z] at hj
    rw [List.getElem?_set_ne (Ne.symm z)] at q
    exact z (r.sep j i a ys xs hj (live_l e) q h1)
  have r2 := r1.keep h2 h4 h5 hu
  have hdp : Dq K (upd W.F a (.lst vs)) (.ref a) (.list xs) := .lst (.of upd_same) (dpa_mono (same_new h4) _ _ h3)
  have hl : i < en.length := live_lt (live_l e)
  have ho : open_ (en.set i none) i = true := by
    unfold open_
    rw [List.getElem?_set_self hl]
  have r3 := r2.setD (i := i) (v := .ref a) (x := .list xs) ho hdp
  rw [List.set_set, List.set_set, set_self_id h1] at r3
  exact ⟨a, _, h1, ext_new r _ h4, r3, hdp⟩
theorem se_frz (i : Nat) {x : Str} {pos : Pos} (hN : X.N[i]? = some x := by rfl) (hv : Vis X.env.scope x := by first | exact Or.inl rfl | exact Or.inr (Or.inl rfl) | exact Or.inr (Or.inr rfl)) (hd : (x == ("__debug__" : Str)) = false := by decide)
    (hcd : (x == ("__classdict__" : Str)) = false := by decide) : SE X (.Name x pos) (fFrz i) := by
  refine ⟨tVar i, pe_var hN hv hd hcd, fun W σ H en r en' Q hR hf q => ?_⟩
  unfold fFrz at hf
  split at hf
  · rename_i xs e
    cases hf
    obtain ⟨a, W', h1, hx, r2, hdp⟩ := hR.freeze e
    exact ⟨.ref a, h1, q _ W' H hx r2 hdp⟩
  · rename_i y e
    cases hf
    obtain ⟨v, h1, h2⟩ := hR.dat i y e
    exact ⟨v, h1, q v W H (Ext.refl _) hR h2⟩
  · cases hf
theorem se_int {i j pos} : SE X (.Constant (.int i) j pos) (fC (.int i)) := ⟨_, pe_int, fun W σ H en r en' Q hR hf q => by cases hf; exact q _ W H (Ext.refl _) hR (.int i)⟩
theorem se_bl {b j pos} : SE X (.Constant (.bool b) j pos) (fC (.bool b)) := ⟨_, pe_bl, fun W σ H en r en' Q hR hf q => by cases hf; exact q _ W H (Ext.refl _) hR (.bl b)⟩
theorem se_non {j pos} : SE X (.Constant .none j pos) (fC .none) := ⟨_, pe_non, fun W σ H en r en' Q hR hf q => by cases hf; exact q _ W H (Ext.refl _) hR .non⟩
theorem se_str {x j pos} : SE X (.Constant (.str x) j pos) (fC (.str x)) := ⟨_, pe_str, fun W σ H en r en' Q hR hf q => by cases hf; exact q _ W H (Ext.refl _) hR (.str x)⟩
/-- a module's number -/
theorem se_globI {x : Str} {i : Int} {t : Tok} {pos : Pos} (hg : Gl X x) (hm : X.mg x = some (.int i t)) (hd : (x == ("__debug__" : Str)) = false := by decide) : SE X (.Name x pos) (fC (.int i)) :=
  ⟨_, pe_glob (v := .int i) hg hm ⟨_, rfl⟩ hd, fun W σ H en r en' Q hR hf q => by cases hf; exact q _ W H (Ext.refl _) hR (.int i)⟩
theorem se_globS {x : Str} {i : Str} {t : Tok} {pos : Pos} (hg : Gl X x) (hm : X.mg x = some (.str i t)) (hd : (x == ("__debug__" : Str)) = false := by decide) : SE X (.Name x pos) (fC (.str i)) :=
  ⟨_, pe_glob (v := .str i) hg hm ⟨_, rfl⟩ hd, fun W σ H en r en' Q hR hf q => by cases hf; exact q _ W H (Ext.refl _) hR (.str i)⟩
/-- a new list, kept for good -/
theorem se_ofL {e : Expr} {f : LF} (h : SL X e f) : SE X e (fOfL f) := by
  obtain ⟨t, hp, ht⟩ := h.run
  refine ⟨t, hp, fun W σ H en r en' Q hR hf q => ?_⟩
  unfold fOfL at hf
  cases hfe : f en with
  | none => rw [hfe] at hf; cases hf
  | some p =>
    obtain ⟨xs, en1⟩ := p
    rw [hfe] at hf
    cases hf
    refine ht W σ H en xs en1 Q hR hfe fun a vs W' H' hx hR' h1 h2 h3 h4 h5 => ?_
    have r2 := hR'.keep h1 h3 h4 h5
    exact q _ _ H' (hx.trans (ext_new hR' _ h3)) r2 (.lst (.of upd_same) (dpa_mono (same_new h3) _ _ h2))

/-! ### operators by values -/
def S1 (K : PySem.W.Frag) (r : V → Hp → VK → Prop) (o : PyData → Option PyData) : Prop := ∀ (F H : Hp) (v : V) (x z : PyData) (Q : VK), Same F H → DpR K F H v x → o x = some z →
  (∀ u, Dq K F u z → Q u H) → (∀ p h, H p = none → Dq K (upd F p h) (.ref p) z → Q (.ref p) (upd H p h)) → r v H Q
def S2 (K : PySem.W.Frag) (r : R2) (o : PyData → PyData → Option PyData) : Prop := ∀ (F H : Hp) (v w : V) (x y z : PyData) (Q : VK), Same F H → DpR K F H v x → DpR K F H w y → o x y = some z →
  (∀ u, Dq K F u z → Q u H) → (∀ p h, H p = none → Dq K (upd F p h) (.ref p) z → Q (.ref p) (upd H p h)) → r v w H Q
inductive DpRs (K : PySem.W.Frag) (F H : Hp) : List V → List PyData → Prop
  | nil : DpRs K F H [] []
  | cons {v : V} {vs : List V} {x : PyData} {xs : List PyData} : DpR K F H v x → DpRs K F H vs xs → DpRs K F H (v :: vs) (x :: xs)
def SB (K : PySem.W.Frag) (r : List V → Hp → VK → Prop) (o : List PyData → Option PyData) : Prop := ∀ (F H : Hp) (vs : List V) (xs : List PyData) (z : PyData) (Q : VK), Same F H → DpRs K F H vs xs → o xs = some z →
  (∀ u, Dq K F u z → Q u H) → (∀ p h, H p = none → Dq K (upd F p h) (.ref p) z → Q (.ref p) (upd H p h)) → r vs H Q
/-- what both ways out of a value rule come to -/
theorem two_ends {K : PySem.W.Frag} {W0 W : Wd} {σ : St} {H : Hp} {en : En} {z : PyData} {Q : VK} (x0 : Ext W0 W) (hR : R K W σ H en) (q : ∀ v W' H', Ext W0 W' → R K W' σ H' en → RVal K W'.F σ v (.d z) → Q v H') :
    (∀ u, Dq K W.F u z → Q u H) ∧ (∀ p h, H p = none → Dq K (upd W.F p h) (.ref p) z → Q (.ref p) (upd H p h)) :=
  ⟨fun u hu => q u W H x0 hR hu, fun p h hp hd => q _ _ _ (x0.trans (ext_new hR h (hR.freshF hp))) (hR.alloc h hp) hd⟩
theorem bindS {α β : Type} {o : Option α} {f : α → Option β} {b : β} (h : o.bind f = some b) : ∃ a, o = some a ∧ f a = some b := by
  cases o with
  | none => cases h
  | some a => exact ⟨a, rfl, h⟩
theorem set1 {r : V → Hp → VK → Prop} {o : PyData → Option PyData} {t : TE} {f : EF} (h : SEt X.K t f) (s : S1 X.K r o) : SEt X.K (tUn r t) (f1 o f) := by
  intro W σ H en r' en' Q hR hf q
  simp only [f1, f2, fB, fTup, fLst, fBool, fTru, fAnd, fOr, fNot, fIfE, fAndV, fOrV, fNotV, fIsN, fNotN, fChain, fCons, Option.bind_eq_some_iff] at hf
  obtain ⟨⟨q1, en1⟩, e1, x, e2, z, e3, hf⟩ := hf
  cases hf
  refine h W σ H en q1 en1 _ hR e1 fun v W1 H1 x1 R1 v1 => ?_
  obtain ⟨k1, k2⟩ := two_ends x1 R1 q
  exact s W1.F H1 v x z Q R1.subF (R1.res v1 e2) e3 k1 k2
theorem se_un {op : UnaryOp} {r : V → Hp → VK → Prop} {o : PyData → Option PyData} {a : Expr} {f : EF} {pos : Pos} (ho : UnR X (unaryOp op) r) (s : S1 X.K r o) (ha : SE X a f) : SE X (.UnaryOp op a pos) (f1 o f) := by
  obtain ⟨t, hp, ht⟩ := ha.run
  exact ⟨_, pe_un ho hp, set1 ht s⟩
theorem set2 {r : R2} {o : PyData → PyData → Option PyData} {t u : TE} {f g : EF} (h : SEt X.K t f) (k : SEt X.K u g) (s : S2 X.K r o) : SEt X.K (tOp r t u) (f2 o f g) := by
  intro W σ H en r' en' Q hR hf q
  simp only [f1, f2, fB, fTup, fLst, fBool, fTru, fAnd, fOr, fNot, fIfE, fAndV, fOrV, fNotV, fIsN, fNotN, fChain, fCons, Option.bind_eq_some_iff] at hf
  obtain ⟨⟨q1, en1⟩, e1, ⟨q2, en2⟩, e2, x, e3, y, e4, z, e5, hf⟩ := hf
  cases hf
  refine h W σ H en q1 en1 _ hR e1 fun v W1 H1 x1 R1 v1 => ?_
  refine k W1 σ H1 en1 q2 en2 _ R1 e2 fun w W2 H2 x2 R2' v2 => ?_
  obtain ⟨k1, k2⟩ := two_ends (x1.trans x2) R2' q
  exact s W2.F H2 v w x y z Q R2'.subF (R2'.res (v1.mono x2.F) e3) (R2'.res v2 e4) e5 k1 k2
theorem se_op {op : Operator} {r : R2} {o : PyData → PyData → Option PyData} {a b : Expr} {f g : EF} {pos : Pos} (ho : OpR X (binaryOp op) r) (s : S2 X.K r o) (ha : SE X a f) (hb : SE X b g) : SE X (.BinOp a op b pos) (f2 o f g) := by
  obtain ⟨t, hp, ht⟩ := ha.run
  obtain ⟨u, hq, hu⟩ := hb.run
  exact ⟨_, pe_op ho hp hq, set2 ht hu s⟩
theorem se_cmp {op : CmpOp} {r : R2} {o : PyData → PyData → Option PyData} {a b : Expr} {f g : EF} {pos : Pos} (ho : OpR X (compareOp op) r) (s : S2 X.K r o) (ha : SE X a f) (hb : SE X b g) (hm : behindInMarks op b = false) : SE X (.Compare a [op] [b] pos) (f2 o f g) := by
  obtain ⟨t, hp, ht⟩ := ha.run
  obtain ⟨u, hq, hu⟩ := hb.run
  exact ⟨_, pe_cmpR ho hp hq hm, set2 ht hu s⟩
theorem stt_bool {t : TE} {f : EF} (h : SEt X.K t f) : STt X.K (tTest t) (fBool f) := by
  intro W σ H en r en' Q hR hf q
  simp only [f1, f2, fB, fTup, fLst, fBool, fTru, fAnd, fOr, fNot, fIfE, fAndV, fOrV, fNotV, fIsN, fNotN, fChain, fCons, Option.bind_eq_some_iff] at hf
  obtain ⟨⟨q1, en1⟩, e1, x, e2, hf⟩ := hf
  simp only at hf
  split at hf
  · rename_i b
    cases hf
    refine h W σ H en q1 _ _ hR e1 fun v W1 H1 x1 R1 v1 => ?_
    exact ⟨r, (R1.res v1 e2).bool, q W1 H1 x1 R1⟩
  · cases hf
theorem st_cmp {op : CmpOp} {r : R2} {o : PyData → PyData → Option PyData} {a b : Expr} {f g : EF} {pos : Pos} (ho : OpR X (compareOp op) r) (s : S2 X.K r o) (ha : SE X a f) (hb : SE X b g) (hm : behindInMarks op b = false) : ST X (.Compare a [op] [b] pos) (fBool (f2 o f g)) := by
  obtain ⟨t, hp, ht⟩ := ha.run
  obtain ⟨u, hq, hu⟩ := hb.run
  exact ⟨_, pt_cmpR ho hp hq hm, stt_bool (set2 ht hu s)⟩
theorem st_val {e : Expr} {f : EF} (h : SE X e f) (he : ∀ whole, isTrue e X.env whole = (do let v ← whole; standAt e.pos; holding [v] (truthy v)) := by intro _; rfl) : ST X e (fBool f) := by
  obtain ⟨t, hp, ht⟩ := h.run
  exact ⟨_, pt_val hp he, stt_bool ht⟩
theorem st_tru {e : Expr} {f : EF} (h : SE X e f) (he : ∀ whole, isTrue e X.env whole = (do let v ← whole; standAt e.pos; holding [v] (truthy v)) := by intro _; rfl) : ST X e (fTru f) := by
  obtain ⟨t, hp, ht⟩ := h.run
  refine ⟨_, pt_truth hp he, fun W σ H en r en' Q hR hf q => ?_⟩
  simp only [f1, f2, fB, fTup, fLst, fBool, fTru, fAnd, fOr, fNot, fIfE, fAndV, fOrV, fNotV, fIsN, fNotN, fChain, fCons, Option.bind_eq_some_iff] at hf
  obtain ⟨⟨q1, en1⟩, e1, x, e2, b, e3, hf⟩ := hf
  cases hf
  refine ht W σ H en q1 en1 _ hR e1 fun v W1 H1 x1 R1 v1 => ?_
  refine ⟨r, ?_, q W1 H1 x1 R1⟩
  have hd := R1.res v1 e2
  cases x with
  | none => cases hd.none; cases e3; rfl
  | bool b => cases hd.bool; cases e3; rfl
  | int i => cases hd.int; cases e3; rfl
  | str s =>
    cases hd.str
    simp only [tru] at e3
    split at e3
    · rename_i hs
      cases e3
      exact ⟨hs, rfl⟩
    · cases e3
  | list xs =>
    obtain ⟨a, vs, rfl, h1, h2⟩ := hd.list R1.subF
    cases e3
    refine .inl ⟨vs, h1, ?_⟩
    cases h2 <;> rfl
  | tuple xs =>
    obtain ⟨a, vs, rfl, h1, h2⟩ := hd.tuple R1.subF
    cases e3
    refine .inr (.inl ⟨vs, h1, ?_⟩)
    cases h2 <;> rfl
  | dict kvs => cases e3
theorem st_and1 {a : Expr} {f : TF} {pos : Pos} (h : ST X a f) : SW X (.BoolOp .And [a] pos) f := by
  obtain ⟨t, hp, ht⟩ := h.run
  exact ⟨t, pw_and1 hp, ht⟩
theorem st_or1 {a : Expr} {f : TF} {pos : Pos} (h : ST X a f) : SW X (.BoolOp .Or [a] pos) f := by
  obtain ⟨t, hp, ht⟩ := h.run
  exact ⟨t, pw_or1 hp, ht⟩
theorem st_and {a b : Expr} {rest : List Expr} {f g : TF} {pos : Pos} (h : ST X a f) (k : SW X (.BoolOp .And (b :: rest) pos) g) : SW X (.BoolOp .And (a :: b :: rest) pos) (fAnd f g) := by
  obtain ⟨t, hp, ht⟩ := h.run
  obtain ⟨u, hq, hu⟩ := k.run
  refine ⟨_, pw_and hp hq, fun W σ H en r en' Q hR hf q => ?_⟩
  simp only [f1, f2, fB, fTup, fLst, fBool, fTru, fAnd, fOr, fNot, fIfE, fAndV, fOrV, fNotV, fIsN, fNotN, fChain, fCons, Option.bind_eq_some_iff] at hf
  obtain ⟨⟨c, en1⟩, e1, hf⟩ := hf
  refine ht W σ H en c en1 _ hR e1 fun W1 H1 x1 R1 => ?_
  simp only at hf
  cases c with
  | true =>
    rw [if_pos rfl] at hf ⊢
    exact hu W1 σ H1 en1 r en' Q R1 hf fun W2 H2 x2 R2' => q W2 H2 (x1.trans x2) R2'
  | false =>
    rw [if_neg Bool.false_ne_true] at hf ⊢
    cases hf
    exact q W1 H1 x1 R1
theorem st_or {a b : Expr} {rest : List Expr} {f g : TF} {pos : Pos} (h : ST X a f) (k : SW X (.BoolOp .Or (b :: rest) pos) g) : SW X (.BoolOp .Or (a :: b :: rest) pos) (fOr f g) := by
  obtain ⟨t, hp, ht⟩ := h.run
  obtain ⟨u, hq, hu⟩ := k.run
  refine ⟨_, pw_or hp hq, fun W σ H en r en' Q hR hf q => ?_⟩
  simp only [f1, f2, fB, fTup, fLst, fBool, fTru, fAnd, fOr, fNot, fIfE, fAndV, fOrV, fNotV, fIsN, fNotN, fChain, fCons, Option.bind_eq_some_iff] at hf
  obtain ⟨⟨c, en1⟩, e1, hf⟩ := hf
  refine ht W σ H en c en1 _ hR e1 fun W1 H1 x1 R1 => ?_
  simp only at hf
  cases c with
  | true =>
    rw [if_pos rfl] at hf ⊢
    cases hf
    exact q W1 H1 x1 R1
  | false =>
    rw [if_neg Bool.false_ne_true] at hf ⊢
    exact hu W1 σ H1 en1 r en' Q R1 hf fun W2 H2 x2 R2' => q W2 H2 (x1.trans x2) R2'
theorem st_w {e : Expr} {f : TF} (h : SW X e f) : ST X e f := by
  obtain ⟨t, hp, ht⟩ := h.run
  exact ⟨t, hp.pt, ht⟩
theorem st_not {a : Expr} {f : TF} {pos : Pos} (h : ST X a f) : ST X (.UnaryOp .Not a pos) (fNot f) := by
  obtain ⟨t, hp, ht⟩ := h.run
  refine ⟨_, pt_not hp, fun W σ H en r en' Q hR hf q => ?_⟩
  simp only [f1, f2, fB, fTup, fLst, fBool, fTru, fAnd, fOr, fNot, fIfE, fAndV, fOrV, fNotV, fIsN, fNotN, fChain, fCons, Option.bind_eq_some_iff] at hf
  obtain ⟨⟨c, en1⟩, e1, hf⟩ := hf
  cases hf
  exact ht W σ H en c en1 _ hR e1 fun W1 H1 x1 R1 => q W1 H1 x1 R1
theorem se_ifE {c a b : Expr} {f : TF} {g h : EF} {pos : Pos} (hc : ST X c f) (ha : SE X a g) (hb : SE X b h) : SE X (.IfExp c a b pos) (fIfE f g h) := by
  obtain ⟨t, hp, ht⟩ := hc.run
  obtain ⟨u, hq, hu⟩ := ha.run
  obtain ⟨w, hr, hw⟩ := hb.run
  refine ⟨_, pe_ifExp hp hq hr, fun W σ H en r en' Q hR hf q => ?_⟩
  simp only [f1, f2, fB, fTup, fLst, fBool, fTru, fAnd, fOr, fNot, fIfE, fAndV, fOrV, fNotV, fIsN, fNotN, fChain, fCons, Option.bind_eq_some_iff] at hf
  obtain ⟨⟨d, en1⟩, e1, hf⟩ := hf
  refine ht W σ H en d en1 _ hR e1 fun W1 H1 x1 R1 => ?_
  simp only at hf
  cases d with
  | true =>
    rw [if_pos rfl] at hf ⊢
    exact hu W1 σ H1 en1 r en' Q R1 hf fun v W2 H2 x2 R2' => q v W2 H2 (x1.trans x2) R2'
  | false =>
    rw [if_neg Bool.false_ne_true] at hf ⊢
    exact hw W1 σ H1 en1 r en' Q R1 hf fun v W2 H2 x2 R2' => q v W2 H2 (x1.trans x2) R2'
theorem rbool {K : PySem.W.Frag} {F : Hp} {σ : St} {v : V} {b : Bool} (h : RVal K F σ v (.d (.bool b))) : v = .bl b := by
  have h' : Dq K F v (.bool b) := h
  cases h'; rfl
theorem se_one {op} {a : Expr} {f : EF} {pos : Pos} (h : SE X a f) : SE X (.BoolOp op [a] pos) f := by
  obtain ⟨t, hp, ht⟩ := h.run
  exact ⟨t, pe_one hp, ht⟩
theorem se_and {a b : Expr} {rest : List Expr} {f g : EF} {pos : Pos} (h : SE X a f) (k : SE X (.BoolOp .And (b :: rest) pos) g) : SE X (.BoolOp .And (a :: b :: rest) pos) (fAndV f g) := by
  obtain ⟨t, hp, ht⟩ := h.run
  obtain ⟨u, hq, hu⟩ := k.run
  refine ⟨_, pe_and hp hq, fun W σ H en r en' Q hR hf q => ?_⟩
  simp only [f1, f2, fB, fTup, fLst, fBool, fTru, fAnd, fOr, fNot, fIfE, fAndV, fOrV, fNotV, fIsN, fNotN, fChain, fCons, Option.bind_eq_some_iff] at hf
  obtain ⟨⟨c, en1⟩, e1, hf⟩ := hf
  refine ht W σ H en c en1 _ hR e1 fun v W1 H1 x1 R1 v1 => ?_
  simp only at hf
  split at hf
  · rename_i b
    refine ⟨b, rbool v1, ?_⟩
    cases b with
    | true =>
      rw [if_pos rfl] at hf ⊢
      exact hu W1 σ H1 en1 r en' Q R1 hf fun v W2 H2 x2 R2' => q v W2 H2 (x1.trans x2) R2'
    | false =>
      rw [if_neg Bool.false_ne_true] at hf ⊢
      cases hf
      exact q _ W1 H1 x1 R1 (.bl false)
  · cases hf
theorem se_or {a b : Expr} {rest : List Expr} {f g : EF} {pos : Pos} (h : SE X a f) (k : SE X (.BoolOp .Or (b :: rest) pos) g) : SE X (.BoolOp .Or (a :: b :: rest) pos) (fOrV f g) := by
  obtain ⟨t, hp, ht⟩ := h.run
  obtain ⟨u, hq, hu⟩ := k.run
  refine ⟨_, pe_or hp hq, fun W σ H en r en' Q hR hf q => ?_⟩
  simp only [f1, f2, fB, fTup, fLst, fBool, fTru, fAnd, fOr, fNot, fIfE, fAndV, fOrV, fNotV, fIsN, fNotN, fChain, fCons, Option.bind_eq_some_iff] at hf
  obtain ⟨⟨c, en1⟩, e1, hf⟩ := hf
  refine ht W σ H en c en1 _ hR e1 fun v W1 H1 x1 R1 v1 => ?_
  simp only at hf
  split at hf
  · rename_i b
    refine ⟨b, rbool v1, ?_⟩
    cases b with
    | true =>
      rw [if_pos rfl] at hf ⊢
      cases hf
      exact q _ W1 H1 x1 R1 (.bl true)
    | false =>
      rw [if_neg Bool.false_ne_true] at hf ⊢
      exact hu W1 σ H1 en1 r en' Q R1 hf fun v W2 H2 x2 R2' => q v W2 H2 (x1.trans x2) R2'
  · cases hf
theorem se_not {a : Expr} {f : EF} {pos : Pos} (h : SE X a f) : SE X (.UnaryOp .Not a pos) (fNotV f) := by
  obtain ⟨t, hp, ht⟩ := h.run
  refine ⟨_, pe_not hp, fun W σ H en r en' Q hR hf q => ?_⟩
  simp only [f1, f2, fB, fTup, fLst, fBool, fTru, fAnd, fOr, fNot, fIfE, fAndV, fOrV, fNotV, fIsN, fNotN, fChain, fCons, Option.bind_eq_some_iff] at hf
  obtain ⟨⟨c, en1⟩, e1, hf⟩ := hf
  refine ht W σ H en c en1 _ hR e1 fun v W1 H1 x1 R1 v1 => ?_
  simp only at hf
  split at hf
  · rename_i b
    cases hf
    exact ⟨b, rbool v1, q _ W1 H1 x1 R1 (.bl _)⟩
  · cases hf
theorem dpr_non {K : PySem.W.Frag} {F H : Hp} {v : V} {x : PyData} (h : DpR K F H v x) : decide (v = .non) = isN x := by
  cases h with
  | old h => cases h <;> simp [isN]
  | cur h k => simp [isN]
theorem se_isN {a : Expr} {f : EF} {pos : Pos} {j pos'} (h : SE X a f) : SE X (.Compare a [.Is] [.Constant .none j pos'] pos) (fIsN f) := by
  obtain ⟨t, hp, ht⟩ := h.run
  refine ⟨_, pe_cmp (pc_isN hp) rfl, fun W σ H en r en' Q hR hf q => ?_⟩
  simp only [f1, f2, fB, fTup, fLst, fBool, fTru, fAnd, fOr, fNot, fIfE, fAndV, fOrV, fNotV, fIsN, fNotN, fChain, fCons, Option.bind_eq_some_iff] at hf
  obtain ⟨⟨c, en1⟩, e1, x, e2, hf⟩ := hf
  cases hf
  refine ht W σ H en c en1 _ hR e1 fun v W1 H1 x1 R1 v1 => ?_
  rw [dpr_non (R1.res v1 e2)]
  exact q _ W1 H1 x1 R1 (.bl _)
theorem se_notN {a : Expr} {f : EF} {pos : Pos} {j pos'} (h : SE X a f) : SE X (.Compare a [.IsNot] [.Constant .none j pos'] pos) (fNotN f) := by
  obtain ⟨t, hp, ht⟩ := h.run
  refine ⟨_, pe_cmp (pc_notN hp) rfl, fun W σ H en r en' Q hR hf q => ?_⟩
  simp only [f1, f2, fB, fTup, fLst, fBool, fTru, fAnd, fOr, fNot, fIfE, fAndV, fOrV, fNotV, fIsN, fNotN, fChain, fCons, Option.bind_eq_some_iff] at hf
  obtain ⟨⟨c, en1⟩, e1, x, e2, hf⟩ := hf
  cases hf
  refine ht W σ H en c en1 _ hR e1 fun v W1 H1 x1 R1 v1 => ?_
  rw [dpr_non (R1.res v1 e2)]
  exact q _ W1 H1 x1 R1 (.bl _)
theorem tB_eq {t : TE} : tB t = tTest t := rfl
theorem st_isN {a : Expr} {f : EF} {pos : Pos} {j pos'} (h : SE X a f) : ST X (.Compare a [.Is] [.Constant .none j pos'] pos) (fBool (fIsN f)) := by
  obtain ⟨t, hp, ht⟩ := h.run
  refine ⟨_, pt_cmp (pc_isN hp) rfl, ?_⟩
  rw [tB_eq]
  refine stt_bool fun W σ H en r en' Q hR hf q => ?_
  simp only [f1, f2, fB, fTup, fLst, fBool, fTru, fAnd, fOr, fNot, fIfE, fAndV, fOrV, fNotV, fIsN, fNotN, fChain, fCons, Option.bind_eq_some_iff] at hf
  obtain ⟨⟨c, en1⟩, e1, x, e2, hf⟩ := hf
  cases hf
  refine ht W σ H en c en1 _ hR e1 fun v W1 H1 x1 R1 v1 => ?_
  rw [dpr_non (R1.res v1 e2)]
  exact q _ W1 H1 x1 R1 (.bl _)
theorem st_notN {a : Expr} {f : EF} {pos : Pos} {j pos'} (h : SE X a f) : ST X (.Compare a [.IsNot] [.Constant .none j pos'] pos) (fBool (fNotN f)) := by
  obtain ⟨t, hp, ht⟩ := h.run
  refine ⟨_, pt_cmp (pc_notN hp) rfl, ?_⟩
  rw [tB_eq]
  refine stt_bool fun W σ H en r en' Q hR hf q => ?_
  simp only [f1, f2, fB, fTup, fLst, fBool, fTru, fAnd, fOr, fNot, fIfE, fAndV, fOrV, fNotV, fIsN, fNotN, fChain, fCons, Option.bind_eq_some_iff] at hf
  obtain ⟨⟨c, en1⟩, e1, x, e2, hf⟩ := hf
  cases hf
  refine ht W σ H en c en1 _ hR e1 fun v W1 H1 x1 R1 v1 => ?_
  rw [dpr_non (R1.res v1 e2)]
  exact q _ W1 H1 x1 R1 (.bl _)
/-! a < b < c -/
theorem set_chain {r r' : R2} {o o' : PyData → PyData → Option PyData} {t u w : TE} {f g h : EF} (h1 : SEt X.K t f) (h2 : SEt X.K u g) (h3 : SEt X.K w h) (s : S2 X.K r o) (s' : S2 X.K r' o') : SEt X.K (tChain r r' t u w) (fChain o o' f g h) := by
  intro W σ H en r0 en' Q hR hf q
  simp only [f1, f2, fB, fTup, fLst, fBool, fTru, fAnd, fOr, fNot, fIfE, fAndV, fOrV, fNotV, fIsN, fNotN, fChain, fCons, Option.bind_eq_some_iff] at hf
  obtain ⟨⟨q1, en1⟩, e1, ⟨q2, en2⟩, e2, x, e3, y, e4, z, e5, hf⟩ := hf
  refine h1 W σ H en q1 en1 _ hR e1 fun v W1 H1 x1 R1 v1 => ?_
  refine h2 W1 σ H1 en1 q2 en2 _ R1 e2 fun wv W2 H2 x2 R2' v2 => ?_
  have x12 := x1.trans x2
  have dx := R2'.res (v1.mono x2.F) e3
  have dy := R2'.res v2 e4
  simp only at hf
  split at hf
  · simp only [Option.bind_eq_some_iff] at hf
    obtain ⟨⟨q4, en4⟩, e6, y', e7, u', e8, t', e9, hf⟩ := hf
    have fin : ∀ (z' : V) (W3 : Wd) (H3 : Hp), Ext W2 W3 → R X.K W3 σ H3 en2 → RVal X.K W3.F σ z' (.d (.bool true)) → ∃ k, z' = .bl k ∧ (if k = true then w σ H3 fun w' H4 => r' wv w' H4 Q else Q (.bl false) H3) := fun z' W3 H3 x3 R3 v3 => by
      refine ⟨true, rbool v3, ?_⟩
      rw [if_pos rfl]
      refine h3 W3 σ H3 en2 q4 en4 _ R3 e6 fun w' W4 H4 x4 R4 v4 => ?_
      cases hf
      obtain ⟨k1, k2⟩ := two_ends ((x12.trans x3).trans x4) R4 q
      exact s' W4.F H4 wv w' y' u' t' Q R4.subF (R4.res ((v2.mono x3.F).mono x4.F) e7) (R4.res v4 e8) e9 k1 k2
    obtain ⟨k1, k2⟩ := two_ends (Ext.refl W2) R2' fin
    exact s W2.F H2 v wv x y _ _ R2'.subF dx dy e5 k1 k2
  · have fin : ∀ (z' : V) (W3 : Wd) (H3 : Hp), Ext W2 W3 → R X.K W3 σ H3 en2 → RVal X.K W3.F σ z' (.d (.bool false)) → ∃ k, z' = .bl k ∧ (if k = true then w σ H3 fun w' H4 => r' wv w' H4 Q else Q (.bl false) H3) := fun z' W3 H3 x3 R3 v3 => by
      refine ⟨false, rbool v3, ?_⟩
      rw [if_neg Bool.false_ne_true]
      cases hf
      exact q _ W3 H3 (x12.trans x3) R3 (.bl false)
    obtain ⟨k1, k2⟩ := two_ends (Ext.refl W2) R2' fin
    exact s W2.F H2 v wv x y _ _ R2'.subF dx dy e5 k1 k2
  · cases hf
theorem se_chain {op op' : CmpOp} {r r' : R2} {o o' : PyData → PyData → Option PyData} {a b c : Expr} {f g h : EF} {pos : Pos} (ho : OpR X (compareOp op) r) (ho' : OpR X (compareOp op') r') (s : S2 X.K r o) (s' : S2 X.K r' o') (ha : SE X a f) (hb : SE X b g) (hc : SE X c h)
    (hm : lastMarks [op, op'] [b, c] = false := by with_unfolding_all rfl) : SE X (.Compare a [op, op'] [b, c] pos) (fChain o o' f g h) := by
  obtain ⟨t, hp, ht⟩ := ha.run
  obtain ⟨u, hq, hu⟩ := hb.run
  obtain ⟨w, hr, hw⟩ := hc.run
  exact ⟨_, pe_chain ho ho' hp hq hr hm, set_chain ht hu hw s s'⟩
theorem st_chain {op op' : CmpOp} {r r' : R2} {o o' : PyData → PyData → Option PyData} {a b c : Expr} {f g h : EF} {pos : Pos} (ho : OpR X (compareOp op) r) (ho' : OpR X (compareOp op') r') (s : S2 X.K r o) (s' : S2 X.K r' o') (ha : SE X a f) (hb : SE X b g) (hc : SE X c h)
    (hm : lastMarks [op, op'] [b, c] = false := by with_unfolding_all rfl) : ST X (.Compare a [op, op'] [b, c] pos) (fBool (fChain o o' f g h)) := by
  obtain ⟨t, hp, ht⟩ := ha.run
  obtain ⟨u, hq, hu⟩ := hb.run
  obtain ⟨w, hr, hw⟩ := hc.run
  exact ⟨_, pt_chain ho ho' hp hq hr hm, stt_bool (set_chain ht hu hw s s')⟩

/-! ### arguments, displays, built-ins -/
theorem sa_nil : SA X [] fNil := ⟨_, pa_nil, fun W σ H en r en' Q hR hf q => by cases hf; exact q [] W H (Ext.refl _) hR .nil⟩
theorem sa_cons {e : Expr} {es : List Expr} {f : EF} {g : AF} (h : SE X e f) (k : SA X es g) (hs : starEach (e :: es) X.env = (false, eval e X.env) :: starEach es X.env := by rfl) : SA X (e :: es) (fCons f g) := by
  obtain ⟨t, hp, ht⟩ := h.run
  obtain ⟨u, hq, hu⟩ := k.run
  refine ⟨_, pa_cons hp hq hs, fun W σ H en r en' Q hR hf q => ?_⟩
  simp only [f1, f2, fB, fTup, fLst, fBool, fTru, fAnd, fOr, fNot, fIfE, fAndV, fOrV, fNotV, fIsN, fNotN, fChain, fCons, Option.bind_eq_some_iff] at hf
  obtain ⟨⟨q1, en1⟩, e1, ⟨q2, en2⟩, e2, hf⟩ := hf
  cases hf
  refine ht W σ H en q1 en1 _ hR e1 fun v W1 H1 x1 R1 v1 => ?_
  refine hu W1 σ H1 en1 q2 en2 _ R1 e2 fun vs W2 H2 x2 R2' v2 => ?_
  exact q _ W2 H2 (x1.trans x2) R2' (.cons (v1.mono x2.F) v2)
theorem R.resL {K : PySem.W.Frag} {W : Wd} {σ : St} {H : Hp} {en : En} (r : R K W σ H en) : ∀ {vs : List V} {qs : List RV} {xs : List PyData}, RVals K W.F σ vs qs → resL en qs = some xs → DpRs K W.F H vs xs
  | _, _, _, .nil, e => by cases e; exact .nil
  | _, _, _, .cons h t, e => by
    obtain ⟨x, e1, e⟩ := bindS e
    obtain ⟨xs, e2, e⟩ := bindS e
    cases e
    exact .cons (r.res h e1) (r.resL t e2)
theorem dat_all {K : PySem.W.Frag} {F : Hp} {σ : St} : ∀ {vs : List V} {qs : List RV} {xs : List PyData}, RVals K F σ vs qs → datL qs = some xs → DqAll K F vs xs
  | _, _, _, .nil, e => by cases e; exact .nil
  | _, _, _, .cons (r := .d x) h t, e => by
    obtain ⟨xs, e2, e⟩ := bindS e
    cases e
    exact .cons h (dat_all t e2)
  | _, _, _, .cons (r := .b i) h t, e => by cases e
theorem se_tup {es : List Expr} {f : AF} {x1 : Nat} {pos : Pos} (h : SA X es f) : SE X (.Tuple es x1 pos) (fTup f) := by
  obtain ⟨t, hp, ht⟩ := h.run
  refine ⟨_, pe_tup hp, fun W σ H en r en' Q hR hf q => ?_⟩
  simp only [f1, f2, fB, fTup, fLst, fBool, fTru, fAnd, fOr, fNot, fIfE, fAndV, fOrV, fNotV, fIsN, fNotN, fChain, fCons, Option.bind_eq_some_iff] at hf
  obtain ⟨⟨q1, en1⟩, e1, xs, e2, hf⟩ := hf
  simp only at hf
  split at hf
  · rename_i hl
    cases hf
    refine ht W σ H en q1 _ _ hR e1 fun vs W1 H1 x1 R1 v1 => ?_
    have ha := dat_all v1 e2
    refine ⟨by rw [dpa_length ha]; exact hl, fun p hp => ?_⟩
    have hF := R1.freshF hp
    exact q _ _ _ (x1.trans (ext_new R1 (.tup vs) hF)) (R1.alloc _ hp) (.tup (SqT.of upd_same) (dpa_mono (same_new hF) _ _ ha))
  · cases hf
theorem sl_lst {es : List Expr} {f : AF} {pos : Pos} (h : SA X es f) : SL X (.List es pos) (fLst f) := by
  obtain ⟨t, hp, ht⟩ := h.run
  refine ⟨_, pe_lst hp, fun W σ H en xs0 en' Q hR hf q => ?_⟩
  simp only [f1, f2, fB, fTup, fLst, fBool, fTru, fAnd, fOr, fNot, fIfE, fAndV, fOrV, fNotV, fIsN, fNotN, fChain, fCons, Option.bind_eq_some_iff] at hf
  obtain ⟨⟨q1, en1⟩, e1, xs, e2, hf⟩ := hf
  simp only at hf
  split at hf
  · rename_i hl
    cases hf
    refine ht W σ H en q1 _ _ hR e1 fun vs W1 H1 x1 R1 v1 => ?_
    have ha := dat_all v1 e2
    refine ⟨by rw [dpa_length ha]; exact hl, fun p hp => ?_⟩
    exact q _ _ _ _ x1 (R1.laid _ hp) upd_same ha (R1.freshF hp) (R1.freshG hp) (R1.unowned hp)
  · cases hf
theorem set_b {r : List V → Hp → VK → Prop} {o : List PyData → Option PyData} {t : TA} {f : AF} (h : SAt X.K t f) (s : SB X.K r o) : SEt X.K (tCB r t) (fB o f) := by
  intro W σ H en r' en' Q hR hf q
  simp only [f1, f2, fB, fTup, fLst, fBool, fTru, fAnd, fOr, fNot, fIfE, fAndV, fOrV, fNotV, fIsN, fNotN, fChain, fCons, Option.bind_eq_some_iff] at hf
  obtain ⟨⟨q1, en1⟩, e1, xs, e2, z, e3, hf⟩ := hf
  cases hf
  refine h W σ H en q1 en1 _ hR e1 fun vs W1 H1 x1 R1 v1 => ?_
  obtain ⟨k1, k2⟩ := two_ends x1 R1 q
  exact s W1.F H1 vs xs z Q R1.subF (R1.resL v1 e2) e3 k1 k2
/-- f(e, ..), f a built-in function -/
theorem se_callB {id : String} {r : List V → Hp → VK → Prop} {o : List PyData → Option PyData} {x : Str} {p pos : Pos} {e : Expr} {es : List Expr} {f : AF} (hc : CallR X (.builtin id) r) (s : SB X.K r o) (hg : Gl X x) (hm : X.mg x = none) (hv : bootBuiltins x = some (.builtin id)) (ha : SA X (e :: es) f)
    (hn : x ≠ "__name__" := by decide) (hdb : (x == ("__debug__" : Str)) = false := by decide)
    (he : starEach (e :: es) X.env = (false, eval e X.env) :: starEach es X.env := by rfl) (hpl : (backTo pos (starEach es X.env)).any (·.1) = false := by rfl) : SE X (.Call (.Name x p) (e :: es) [] pos) (fB o f) := by
  obtain ⟨t, hp, ht⟩ := ha.run
  exact ⟨_, pe_callB hc hg hm hv hp hn hdb he hpl, set_b ht s⟩
theorem se_callTy {T : String} {r : List V → Hp → VK → Prop} {o : List PyData → Option PyData} {x : Str} {p pos : Pos} {e : Expr} {es : List Expr} {f : AF} (hc : CallR X (.type T) r) (s : SB X.K r o) (hg : Gl X x) (hm : X.mg x = none) (hv : bootBuiltins x = some (.type T)) (ha : SA X (e :: es) f)
    (hn : x ≠ "__name__" := by decide) (hdb : (x == ("__debug__" : Str)) = false := by decide)
    (he : starEach (e :: es) X.env = (false, eval e X.env) :: starEach es X.env := by rfl) (hpl : (backTo pos (starEach es X.env)).any (·.1) = false := by rfl) : SE X (.Call (.Name x p) (e :: es) [] pos) (fB o f) := by
  obtain ⟨t, hp, ht⟩ := ha.run
  exact ⟨_, pe_callTy hc hg hm hv hp hn hdb he hpl, set_b ht s⟩
end
end L2.FL
set_option Elab.async false
set_option linter.all false
set_option maxRecDepth 100000
set_option maxHeartbeats 2000000
/-! FL3: the values' own rules: operators, comparisons, built-ins over data. -/
namespace L2.FL
open PySem PySem.Spec PyProof.Rows L2

/-! ### numbers -/
/-- a bound that no number of ours reaches -/
def big : Nat := 2 ^ 8000
def DivOk (j : Int) : Prop := 0 < j ∧ j.natAbs < big
def MulOk (i j : Int) : Prop := i.natAbs < 2 ^ 64 ∨ j.natAbs < 2 ^ 64 ∨ (i.natAbs < big ∧ j.natAbs < big)
noncomputable instance {j : Int} : Decidable (DivOk j) := Classical.propDecidable _
noncomputable instance {i j : Int} : Decidable (MulOk i j) := Classical.propDecidable _
theorem lt_big {n : Nat} (h : n < 2 ^ 64) : n < big := Nat.lt_of_lt_of_le h (Nat.pow_le_pow_right (by decide) (by decide))
theorem DivOk.of {j : Int} (h : 0 < j) (h2 : j < 18446744073709551616) : DivOk j := ⟨h, lt_big (by omega)⟩
theorem MulOk.l {i j : Int} (h : -18446744073709551616 < i) (h2 : i < 18446744073709551616) : MulOk i j := .inl (by omega)
theorem MulOk.r {i j : Int} (h : -18446744073709551616 < j) (h2 : j < 18446744073709551616) : MulOk i j := .inr (.inl (by omega))
theorem DivOk.w {j : Int} (h : DivOk j) : CDivW 0 j := wide_div h.1 (show j.natAbs < 2 ^ 8000 from h.2) (by decide) (by decide)
theorem MulOk.ok {i j : Int} (h : MulOk i j) : CMul i j ∨ CMulW i j := by
  rcases h with h | h | ⟨h1, h2⟩
  · exact .inl (.inl ⟨by omega, by omega⟩)
  · exact .inl (.inr ⟨by omega, by omega⟩)
  · exact .inr (wide_mul (a := 8000) (b := 8000) h1 h2 (by decide) (by decide) (by decide))

section
variable {X : Cx}
theorem dpr2_int {K : PySem.W.Frag} {F H : Hp} {v : V} {x : PyData} {i : Int} (h : DpR K F H v x) (e : x = .int i) : v = .int i := by
  subst e; exact h.int
/-- + of lists that are read -/
def rCatR (K : PySem.W.Frag) : R2 := fun x y H Q => ∃ l b xs zs, x = .ref l ∧ y = .ref b ∧ SqL K H l xs ∧ SqL K H b zs ∧ xs.length + zs.length ≤ sizeLine ∧ ∀ p, H p = none → Q (.ref p) (upd H p (.lst (xs ++ zs)))
theorem op_catR : OpR X (binaryOp .Add) (rCatR X.K) := by
  intro pins s σ H x y v u Q I rx ry h
  obtain ⟨l, b, xs, zs, ex, ey, h1, h2, hz, q⟩ := h
  subst ex; subst ey
  cases rx
  cases ry
  obtain ⟨i1, v1, ⟨⟨c1, d1, dt1, sl1⟩, n1, ho1, hc1, hd1, hs1⟩, _⟩ := Inv.list I h1
  obtain ⟨i2, v2, ⟨⟨c2, d2, dt2, sl2⟩, n2, ho2, hc2, hd2, hs2⟩, _⟩ := Inv.list I h2
  have l1 := v1.length
  have l2 := v2.length
  simp only at hc1 hd1 hs1 hc2 hd2 hs2
  subst hc1 hd1 hs1 hc2 hd2 hs2
  refine concat_meets ⟨_, ho1, rfl⟩ ⟨_, ho2, rfl⟩ noFill_list_add seq_list_add PySem.F.slot_list_add PySem.F.entry_list_add (PySem.F.args_list_add_2 _ _) (list_addW l b i1.toArray i2.toArray n1 n2 none none sl1 sl2 (by simp only [List.size_toArray]; omega)) ⟨ho1, ho2, ?_⟩
  rw [show i1.toArray ++ i2.toArray = (i1 ++ i2).toArray by simp]
  exact ⟨.ref _, _, I.lnew (t' := s.toks) (v1.append v2) (by simp only [List.length_append]; omega), rfl, q _ I.fresh⟩

def oAdd (x y : PyData) : Option PyData := match x, y with
  | .int i, .int j => some (.int (i + j))
  | .str a, .str b => if a.length + b.length ≤ sizeLine then some (.str (a ++ b)) else none
  | .tuple xs, .tuple ys => if xs.length + ys.length ≤ sizeLine then some (.tuple (xs ++ ys)) else none
  | .list xs, .list ys => if xs.length + ys.length ≤ sizeLine then some (.list (xs ++ ys)) else none
  | _, _ => none
def rAddA (K : PySem.W.Frag) : R2 := fun x y H Q => (rI0 (fun i j => .int (i + j)) x y H Q ∨ (∃ i j, x = .str i ∧ y = .str j ∧ i.length + j.length ≤ sizeLine ∧ Q (.str (i ++ j)) H)) ∨ (rCatA K x y H Q ∨ rCatR K x y H Q)
theorem op_addA : OpR X (binaryOp .Add) (rAddA X.K) := (op_add.or op_add_str).or (op_catA.or op_catR)
theorem dqa_nil {K : PySem.W.Frag} {F : Hp} {vs : List V} (h : DqAll K F vs []) : vs = [] := by cases h; rfl
theorem dqa_nil' {K : PySem.W.Frag} {F : Hp} {xs : List PyData} (h : DqAll K F [] xs) : xs = [] := by cases h; rfl
theorem tup_new {K : PySem.W.Frag} {F H : Hp} {p : Addr} {vs : List V} {xs : List PyData} (s : Same F H) (hp : H p = none) (h : DqAll K F vs xs) : Dq K (upd F p (.tup vs)) (.ref p) (.tuple xs) :=
  .tup (SqT.of upd_same) (dpa_mono (same_new (s.free hp)) _ _ h)
theorem lst_new {K : PySem.W.Frag} {F H : Hp} {p : Addr} {vs : List V} {xs : List PyData} (s : Same F H) (hp : H p = none) (h : DqAll K F vs xs) : Dq K (upd F p (.lst vs)) (.ref p) (.list xs) :=
  .lst (.of upd_same) (dpa_mono (same_new (s.free hp)) _ _ h)
theorem DpR.oldT {K : PySem.W.Frag} {F H : Hp} {v : V} {xs : List PyData} (h : DpR K F H v (.tuple xs)) : Dq K F v (.tuple xs) := by
  cases h with
  | old h => exact h
theorem s_add {K : PySem.W.Frag} : S2 K (rAddA K) oAdd := by
  intro F H v w x y z Q s dx dy e k1 k2
  unfold oAdd at e
  split at e
  · cases e
    exact .inl (.inl ⟨_, _, dx.int, dy.int, k1 _ (.int _)⟩)
  · split at e
    · rename_i hz
      cases e
      exact .inl (.inr ⟨_, _, dx.str, dy.str, hz, k1 _ (.str _)⟩)
    · cases e
  · split at e
    · rename_i xs ys hz
      cases e
      obtain ⟨a, vs, rfl, h1, h2⟩ := dx.tuple s
      obtain ⟨b, ws, rfl, h3, h4⟩ := dy.tuple s
      refine .inr (.inl ⟨a, b, vs, ws, rfl, rfl, h1, h3, by rw [dpa_length h2, dpa_length h4]; exact hz, fun e0 => ?_, fun e0 e1 => ?_, fun e0 e1 p hp => ?_⟩)
      · subst e0
        cases dqa_nil' h2
        exact k1 _ dy.oldT
      · subst e1
        cases dqa_nil' h4
        rw [List.append_nil] at k1
        exact k1 _ dx.oldT
      · exact k2 p _ hp (tup_new s hp (dpa_app h2 h4))
    · cases e
  · split at e
    · rename_i xs ys hz
      cases e
      obtain ⟨a, vs, rfl, h1, h2⟩ := dx.list s
      obtain ⟨b, ws, rfl, h3, h4⟩ := dy.list s
      exact .inr (.inr ⟨a, b, vs, ws, rfl, rfl, h1, h3, by rw [dpa_length h2, dpa_length h4]; exact hz, fun p hp => k2 p _ hp (lst_new s hp (dpa_app h2 h4))⟩)
    · cases e
  · cases e
def oSub (x y : PyData) : Option PyData := match x, y with
  | .int i, .int j => some (.int (i - j))
  | _, _ => none
theorem s_sub {K : PySem.W.Frag} : S2 K (rI0 fun i j => .int (i - j)) oSub := by
  intro F H v w x y z Q s dx dy e k1 k2
  unfold oSub at e
  split at e
  · cases e
    exact ⟨_, _, dx.int, dy.int, k1 _ (.int _)⟩
  · cases e
noncomputable def oMul (x y : PyData) : Option PyData := match x, y with
  | .int i, .int j => if MulOk i j then some (.int (i * j)) else none
  | _, _ => none
def rMulA : R2 := fun x y H Q => rI CMul (fun i j => .int (i * j)) x y H Q ∨ rI CMulW (fun i j => .int (i * j)) x y H Q
theorem op_mulA : OpR X (binaryOp .Mult) rMulA := op_mul.or op_mulW
theorem s_mul {K : PySem.W.Frag} : S2 K rMulA oMul := by
  intro F H v w x y z Q s dx dy e k1 k2
  unfold oMul at e
  split at e
  · split at e
    · rename_i hm
      cases e
      rcases hm.ok with h | h
      · exact .inl ⟨_, _, dx.int, dy.int, h, k1 _ (.int _)⟩
      · exact .inr ⟨_, _, dx.int, dy.int, h, k1 _ (.int _)⟩
    · cases e
  · cases e
noncomputable def oDiv (x y : PyData) : Option PyData := match x, y with
  | .int i, .int j => if DivOk j then some (.int (i / j)) else none
  | _, _ => none
theorem s_div {K : PySem.W.Frag} : S2 K (rI CDivW fun i j => .int (i / j)) oDiv := by
  intro F H v w x y z Q s dx dy e k1 k2
  unfold oDiv at e
  split at e
  · split at e
    · rename_i hm
      cases e
      exact ⟨_, _, dx.int, dy.int, hm.w, k1 _ (.int _)⟩
    · cases e
  · cases e
def oMod (x y : PyData) : Option PyData := match x, y with
  | .int i, .int j => if 0 < j then some (.int (i % j)) else none
  | _, _ => none
theorem s_mod {K : PySem.W.Frag} : S2 K (rI (fun _ j => 0 < j) fun i j => .int (i % j)) oMod := by
  intro F H v w x y z Q s dx dy e k1 k2
  unfold oMod at e
  split at e
  · split at e
    · rename_i hm
      cases e
      exact ⟨_, _, dx.int, dy.int, hm, k1 _ (.int _)⟩
    · cases e
  · cases e
def oNeg (x : PyData) : Option PyData := match x with
  | .int i => some (.int (-i))
  | _ => none
theorem s_neg {K : PySem.W.Frag} : S1 K (rU fun i => .int (-i)) oNeg := by
  intro F H v x z Q s dx e k1 k2
  unfold oNeg at e
  split at e
  · cases e
    exact ⟨_, dx.int, k1 _ (.int _)⟩
  · cases e

/-! ### comparisons of data -/
/-- data that may be compared: no dicts, not too deep -/
def okd (d : PyData) : Bool := d.plain && decide (d.depth ≤ 64)
def okdAll (ds : List PyData) : Bool := PyData.plainAll ds && decide (PyData.depthAll ds ≤ 64)
def cmpOk (x y : PyData) : Bool := PySem.W.alike x y && (match x with | .none => false | _ => true) && decide (x.depth ≤ 64)
def oEq (x y : PyData) : Option PyData := if okd x && okd y then some (.bool (PyData.eqv x y)) else none
def oNe (x y : PyData) : Option PyData := if okd x && okd y then some (.bool (!PyData.eqv x y)) else none
def oLt (x y : PyData) : Option PyData := match x, y with
  | .int i, .int j => some (.bool (decide (i < j)))
  | x, y => if cmpOk x y then some (.bool (PySem.W.dataLt x y)) else none
def oGt (x y : PyData) : Option PyData := match x, y with
  | .int i, .int j => some (.bool (decide (j < i)))
  | x, y => if cmpOk x y then some (.bool (PySem.W.dataLt y x)) else none
def oLe (x y : PyData) : Option PyData := match x, y with
  | .int i, .int j => some (.bool (decide (i ≤ j)))
  | x, y => if cmpOk x y then some (.bool (!PySem.W.dataLt y x)) else none
def oGe (x y : PyData) : Option PyData := match x, y with
  | .int i, .int j => some (.bool (decide (j ≤ i)))
  | x, y => if cmpOk x y then some (.bool (!PySem.W.dataLt x y)) else none
def anyEq (xs : List PyData) (d : PyData) : Bool := xs.any fun y => PyData.eqv y d
def oIn (x c : PyData) : Option PyData := match c with
  | .list xs => if okdAll xs && okd x then some (.bool (anyEq xs x)) else none
  | .tuple xs => if okdAll xs && okd x then some (.bool (anyEq xs x)) else none
  | _ => none
def oNotIn (x c : PyData) : Option PyData := match c with
  | .list xs => if okdAll xs && okd x then some (.bool (!anyEq xs x)) else none
  | .tuple xs => if okdAll xs && okd x then some (.bool (!anyEq xs x)) else none
  | _ => none
/-- a comparison by the data -/
def rD2 (K : PySem.W.Frag) (o : PyData → PyData → Option PyData) : R2 := fun x y H Q => ∃ d e b, Dp K H x d ∧ Dp K H y e ∧ o d e = some (.bool b) ∧ Q (.bl b) H
theorem s_D2 {K : PySem.W.Frag} {o : PyData → PyData → Option PyData} (ho : ∀ x y z, o x y = some z → ∃ b, z = .bool b) : S2 K (rD2 K o) o := by
  intro F H v w x y z Q s dx dy e k1 k2
  obtain ⟨b, rfl⟩ := ho x y z e
  exact ⟨x, y, b, dq_dp _ _ (dx.now s), dq_dp _ _ (dy.now s), e, k1 _ (.bl b)⟩
theorem opD2 {op : CmpOp} {o : PyData → PyData → Option PyData}
    (h : ∀ (s : Shared) (Q : Value → Shared → Prop) (v u : Value) (d e : PyData) (b : Bool) (as bs : List Addr), Reads s.heap v d as → Reads s.heap u e bs → o d e = some (.bool b) → Q (.bool b) s → wpAny (model X.prog X.w) X.A (compareOp op v u) Q X.xe s) :
    OpR X (compareOp op) (rD2 X.K o) := by
  intro pins s σ H x y v u Q I rx ry hh
  obtain ⟨d, e, b, hd, he, ho, q⟩ := hh
  obtain ⟨as, r1⟩ := Dp.reads I d x v hd rx
  obtain ⟨bs, r2⟩ := Dp.reads I e y u he ry
  exact h s _ v u d e b as bs r1 r2 ho ⟨.bl b, H, I, rfl, q⟩
theorem okd_plain {d : PyData} (h : okd d = true) : d.plain = true ∧ d.depth ≤ 64 := by
  unfold okd at h
  simp only [Bool.and_eq_true, decide_eq_true_eq] at h
  exact h
theorem okdAll_plain {d : List PyData} (h : okdAll d = true) : PyData.plainAll d = true ∧ PyData.depthAll d ≤ 64 := by
  unfold okdAll at h
  simp only [Bool.and_eq_true, decide_eq_true_eq] at h
  exact h
theorem op_eqA (hu : X.A.units + 200 < cLine) : OpR X (compareOp .Eq) (rD2 X.K oEq) := opD2 fun s Q v u d e b as bs r1 r2 ho q => by
  unfold oEq at ho
  split at ho
  · rename_i hk
    simp only [Bool.and_eq_true] at hk
    cases ho
    have h1 := okd_plain hk.1
    have h2 := okd_plain hk.2
    exact PySem.SeqAt.eq_plain r1 r2 h1.1 h2.1 (by have := Nat.min_le_left d.depth e.depth; omega) q
  · cases ho
theorem op_neA (hu : X.A.units + 200 < cLine) : OpR X (compareOp .NotEq) (rD2 X.K oNe) := opD2 fun s Q v u d e b as bs r1 r2 ho q => by
  unfold oNe at ho
  split at ho
  · rename_i hk
    simp only [Bool.and_eq_true] at hk
    cases ho
    have h1 := okd_plain hk.1
    have h2 := okd_plain hk.2
    exact PySem.SeqAt.ne_plain r1 r2 h1.1 h2.1 (by have := Nat.min_le_left d.depth e.depth; omega) q
  · cases ho
theorem cmpOk_of {x y : PyData} (h : cmpOk x y = true) : PySem.W.alike x y = true ∧ x ≠ .none ∧ x.depth ≤ 64 := by
  unfold cmpOk at h
  simp only [Bool.and_eq_true, decide_eq_true_eq] at h
  refine ⟨h.1.1, fun e => ?_, h.2⟩
  subst e
  exact absurd h.1.2 Bool.false_ne_true
theorem op_ltA (hu : X.A.units + 200 < cLine) : OpR X (compareOp .Lt) (rD2 X.K oLt) := opD2 fun s Q v u d e b as bs r1 r2 ho q => by
  unfold oLt at ho
  split at ho
  · cases ho
    cases r1
    cases r2
    exact lt_int q
  · split at ho
    · rename_i hk
      cases ho
      obtain ⟨h1, h2, h3⟩ := cmpOk_of hk
      exact PySem.W.rcLt_alike _ _ _ _ _ _ _ _ r1 r2 h1 h2 (by have := Nat.min_le_left d.depth e.depth; omega) _ _ _ _ q
    · cases ho
theorem op_gtA (hu : X.A.units + 200 < cLine) : OpR X (compareOp .Gt) (rD2 X.K oGt) := opD2 fun s Q v u d e b as bs r1 r2 ho q => by
  unfold oGt at ho
  split at ho
  · cases ho
    cases r1
    cases r2
    exact gt_int q
  · split at ho
    · rename_i hk
      cases ho
      obtain ⟨h1, h2, h3⟩ := cmpOk_of hk
      exact PySem.W.rcGt_alike _ _ _ _ _ _ _ _ r1 r2 h1 h2 (by have := Nat.min_le_left d.depth e.depth; omega) _ _ _ _ q
    · cases ho
theorem op_leA (hu : X.A.units + 200 < cLine) : OpR X (compareOp .LtE) (rD2 X.K oLe) := opD2 fun s Q v u d e b as bs r1 r2 ho q => by
  unfold oLe at ho
  split at ho
  · cases ho
    cases r1
    cases r2
    exact le_int q
  · split at ho
    · rename_i hk
      cases ho
      obtain ⟨h1, h2, h3⟩ := cmpOk_of hk
      exact PySem.W.rcLe_alike _ _ _ _ _ _ _ _ r1 r2 h1 h2 (by have := Nat.min_le_left d.depth e.depth; omega) _ _ _ _ q
    · cases ho
theorem op_geA (hu : X.A.units + 200 < cLine) : OpR X (compareOp .GtE) (rD2 X.K oGe) := opD2 fun s Q v u d e b as bs r1 r2 ho q => by
  unfold oGe at ho
  split at ho
  · cases ho
    cases r1
    cases r2
    exact ge_int q
  · split at ho
    · rename_i hk
      cases ho
      obtain ⟨h1, h2, h3⟩ := cmpOk_of hk
      exact PySem.W.rcGe_alike _ _ _ _ _ _ _ _ r1 r2 h1 h2 (by have := Nat.min_le_left d.depth e.depth; omega) _ _ _ _ q
    · cases ho
theorem op_inA (hu : X.A.units + 200 < cLine) : OpR X (compareOp .In) (rD2 X.K oIn) := opD2 fun s Q v u d e b as bs r1 r2 ho q => by
  unfold oIn at ho
  split at ho
  · split at ho
    · rename_i hk
      simp only [Bool.and_eq_true] at hk
      cases ho
      have h1 := okdAll_plain hk.1
      have h2 := okd_plain hk.2
      exact PySem.SeqAt.in_list_data r2 r1 h1.1 h2.1 (by have := Nat.min_le_right (PyData.depthAll ‹List PyData›) d.depth; omega) q
    · cases ho
  · split at ho
    · rename_i hk
      simp only [Bool.and_eq_true] at hk
      cases ho
      have h1 := okdAll_plain hk.1
      have h2 := okd_plain hk.2
      exact PySem.SeqAt.in_tuple_data r2 r1 h1.1 h2.1 (by have := Nat.min_le_right (PyData.depthAll ‹List PyData›) d.depth; omega) q
    · cases ho
  · cases ho
theorem op_notInA (hu : X.A.units + 200 < cLine) : OpR X (compareOp .NotIn) (rD2 X.K oNotIn) := opD2 fun s Q v u d e b as bs r1 r2 ho q => by
  unfold oNotIn at ho
  split at ho
  · split at ho
    · rename_i hk
      simp only [Bool.and_eq_true] at hk
      cases ho
      have h1 := okdAll_plain hk.1
      have h2 := okd_plain hk.2
      exact PySem.SeqAt.notIn_list_data r2 r1 h1.1 h2.1 (by have := Nat.min_le_right (PyData.depthAll ‹List PyData›) d.depth; omega) q
    · cases ho
  · split at ho
    · rename_i hk
      simp only [Bool.and_eq_true] at hk
      cases ho
      have h1 := okdAll_plain hk.1
      have h2 := okd_plain hk.2
      exact PySem.SeqAt.notIn_tuple_data r2 r1 h1.1 h2.1 (by have := Nat.min_le_right (PyData.depthAll ‹List PyData›) d.depth; omega) q
    · cases ho
  · cases ho
theorem s_eq {K : PySem.W.Frag} : S2 K (rD2 K oEq) oEq := s_D2 fun x y z e => by unfold oEq at e; split at e <;> cases e; exact ⟨_, rfl⟩
theorem s_ne {K : PySem.W.Frag} : S2 K (rD2 K oNe) oNe := s_D2 fun x y z e => by unfold oNe at e; split at e <;> cases e; exact ⟨_, rfl⟩
theorem s_lt {K : PySem.W.Frag} : S2 K (rD2 K oLt) oLt := s_D2 fun x y z e => by
  unfold oLt at e
  split at e
  · cases e; exact ⟨_, rfl⟩
  · split at e <;> cases e; exact ⟨_, rfl⟩
theorem s_gt {K : PySem.W.Frag} : S2 K (rD2 K oGt) oGt := s_D2 fun x y z e => by
  unfold oGt at e
  split at e
  · cases e; exact ⟨_, rfl⟩
  · split at e <;> cases e; exact ⟨_, rfl⟩
theorem s_le {K : PySem.W.Frag} : S2 K (rD2 K oLe) oLe := s_D2 fun x y z e => by
  unfold oLe at e
  split at e
  · cases e; exact ⟨_, rfl⟩
  · split at e <;> cases e; exact ⟨_, rfl⟩
theorem s_ge {K : PySem.W.Frag} : S2 K (rD2 K oGe) oGe := s_D2 fun x y z e => by
  unfold oGe at e
  split at e
  · cases e; exact ⟨_, rfl⟩
  · split at e <;> cases e; exact ⟨_, rfl⟩
theorem s_in {K : PySem.W.Frag} : S2 K (rD2 K oIn) oIn := s_D2 fun x y z e => by
  unfold oIn at e
  split at e
  · split at e <;> cases e; exact ⟨_, rfl⟩
  · split at e <;> cases e; exact ⟨_, rfl⟩
  · cases e
theorem s_notIn {K : PySem.W.Frag} : S2 K (rD2 K oNotIn) oNotIn := s_D2 fun x y z e => by
  unfold oNotIn at e
  split at e
  · split at e <;> cases e; exact ⟨_, rfl⟩
  · split at e <;> cases e; exact ⟨_, rfl⟩
  · cases e

/-! ### subscripts -/
def oIx (c i : PyData) : Option PyData := match c, i with
  | .list xs, .int i => atI xs i
  | .tuple xs, .int i => atI xs i
  | .str z, .int i => if z.length ≤ sizeLine then (atI z.cps.toList i).bind fun c => some (.str ⟨#[c]⟩) else none
  | _, _ => none
theorem atI_dqa {K : PySem.W.Frag} {F : Hp} {vs : List V} {xs : List PyData} {i : Int} {z : PyData} (h : DqAll K F vs xs) (e : atI xs i = some z) : ∃ v, atI vs i = some v ∧ Dq K F v z := by
  unfold atI at e ⊢
  rw [dpa_length h]
  cases hk : ixN xs.length i with
  | none => rw [hk] at e; cases e
  | some j =>
    rw [hk] at e
    exact dpa_get h e
theorem s_ix {K : PySem.W.Frag} : S2 K (rIx K) oIx := by
  intro F H v w x y z Q s dx dy e k1 k2
  unfold oIx at e
  split at e
  · obtain ⟨a, vs, rfl, h1, h2⟩ := dx.list s
    obtain ⟨u, e1, e2⟩ := atI_dqa h2 e
    exact .inl ⟨a, vs, _, u, rfl, dy.int, h1, e1, k1 _ e2⟩
  · obtain ⟨a, vs, rfl, h1, h2⟩ := dx.tuple s
    obtain ⟨u, e1, e2⟩ := atI_dqa h2 e
    exact .inr (.inl ⟨a, vs, _, u, rfl, dy.int, h1, e1, k1 _ e2⟩)
  · split at e
    · rename_i hz
      simp only [Option.bind_eq_some_iff] at e
      obtain ⟨c, e1, e2⟩ := e
      cases e2
      exact .inr (.inr ⟨_, _, c, dx.str, dy.int, hz, e1, k1 _ (.str _)⟩)
    · cases e
  · cases e
theorem se_ix {a b : Expr} {f g : EF} {pos : Pos} (ha : SE X a f) (hb : SE X b g) (hs : PlainIx b) : SE X (.Subscript a b pos) (f2 oIx f g) := by
  obtain ⟨t, hp, ht⟩ := ha.run
  obtain ⟨u, hq, hu⟩ := hb.run
  exact ⟨_, pe_ix ix_seq hp hq hs, set2 ht hu s_ix⟩
end
end L2.FL
set_option Elab.async false
set_option linter.all false
set_option maxRecDepth 100000
set_option maxHeartbeats 2000000
/-! FL4: built-in functions and types over data; slices. -/
namespace L2.FL
open PySem PySem.Spec PyProof.Rows L2

section
variable {X : Cx}
theorem dprs1 {K : PySem.W.Frag} {F H : Hp} {vs : List V} {x : PyData} (h : DpRs K F H vs [x]) : ∃ v, vs = [v] ∧ DpR K F H v x := by
  cases h with
  | cons a b => cases b; exact ⟨_, rfl, a⟩
theorem dprs2 {K : PySem.W.Frag} {F H : Hp} {vs : List V} {x y : PyData} (h : DpRs K F H vs [x, y]) : ∃ v w, vs = [v, w] ∧ DpR K F H v x ∧ DpR K F H w y := by
  cases h with
  | cons a b =>
    cases b with
    | cons c d => cases d; exact ⟨_, _, rfl, a, c⟩
/-! len, abs, int, bool, tuple -/
def oLen : List PyData → Option PyData
  | [.list xs] => some (.int xs.length)
  | [.tuple xs] => some (.int xs.length)
  | [.str z] => if z.length ≤ sizeLine then some (.int z.length) else none
  | _ => none
def rLenA (K : PySem.W.Frag) : List V → Hp → VK → Prop := fun xs H Q => ∃ x n, xs = [x] ∧ LenV K x H n ∧ Q (.int n) H
theorem s_len {K : PySem.W.Frag} : SB K (rLenA K) oLen := by
  intro F H vs xs z Q s d e k1 k2
  unfold oLen at e
  split at e
  · obtain ⟨v, rfl, h⟩ := dprs1 d
    obtain ⟨a, ws, rfl, h1, h2⟩ := h.list s
    cases e
    exact ⟨_, ws.length, rfl, .inl ⟨ws, h1, rfl⟩, k1 _ (by rw [dpa_length h2]; exact .int _)⟩
  · obtain ⟨v, rfl, h⟩ := dprs1 d
    obtain ⟨a, ws, rfl, h1, h2⟩ := h.tuple s
    cases e
    exact ⟨_, ws.length, rfl, .inr ⟨ws, h1, rfl⟩, k1 _ (by rw [dpa_length h2]; exact .int _)⟩
  · obtain ⟨v, rfl, h⟩ := dprs1 d
    split at e
    · rename_i hz
      cases h.str
      cases e
      exact ⟨_, _, rfl, ⟨hz, rfl⟩, k1 _ (.int _)⟩
    · cases e
  · cases e
def oAbs : List PyData → Option PyData
  | [.int i] => some (.int (if i < 0 then -i else i))
  | _ => none
theorem s_abs {K : PySem.W.Frag} : SB K (fun xs H Q => ∃ i, xs = [.int i] ∧ Q (.int (if i < 0 then -i else i)) H) oAbs := by
  intro F H vs xs z Q s d e k1 k2
  unfold oAbs at e
  split at e
  · obtain ⟨v, rfl, h⟩ := dprs1 d
    cases h.int
    cases e
    exact ⟨_, rfl, k1 _ (.int _)⟩
  · cases e
def oInt : List PyData → Option PyData
  | [.int i] => some (.int i)
  | [.bool b] => some (.int (if b then 1 else 0))
  | _ => none
theorem s_int {K : PySem.W.Frag} : SB K (fun xs H Q => (∃ i, xs = [.int i] ∧ Q (.int i) H) ∨ ∃ k, xs = [.bl k] ∧ Q (.int (if k then 1 else 0)) H) oInt := by
  intro F H vs xs z Q s d e k1 k2
  unfold oInt at e
  split at e
  · obtain ⟨v, rfl, h⟩ := dprs1 d
    cases h.int
    cases e
    exact .inl ⟨_, rfl, k1 _ (.int _)⟩
  · obtain ⟨v, rfl, h⟩ := dprs1 d
    cases h.bool
    cases e
    exact .inr ⟨_, rfl, k1 _ (.int _)⟩
  · cases e
def oTuple : List PyData → Option PyData
  | [.list xs] => some (.tuple xs)
  | [.tuple xs] => some (.tuple xs)
  | _ => none
def rTupleA (K : PySem.W.Frag) : List V → Hp → VK → Prop := fun xs H Q => ∃ p ys, xs = [.ref p] ∧ ((SqL K H p ys ∧ ∀ l, H l = none → Q (.ref l) (upd H l (.tup ys))) ∨ (SqT K H p ys ∧ Q (.ref p) H))
theorem s_tuple {K : PySem.W.Frag} : SB K (rTupleA K) oTuple := by
  intro F H vs xs z Q s d e k1 k2
  unfold oTuple at e
  split at e
  · obtain ⟨v, rfl, h⟩ := dprs1 d
    obtain ⟨a, ws, rfl, h1, h2⟩ := h.list s
    cases e
    exact ⟨a, ws, rfl, .inl ⟨h1, fun l hl => k2 l _ hl (tup_new s hl h2)⟩⟩
  · obtain ⟨v, rfl, h⟩ := dprs1 d
    obtain ⟨a, ws, rfl, h1, h2⟩ := h.tuple s
    cases e
    exact ⟨a, ws, rfl, .inr ⟨h1, k1 _ h.oldT⟩⟩
  · cases e

/-! max, min -/
def alikeB (xs : List PyData) : Bool := xs.all fun x => (match x with | .none => false | _ => true) && xs.all fun y => PySem.W.alike x y
theorem alikeB_of {xs : List PyData} (h : alikeB xs = true) : PySem.W.AlikeAll xs := by
  unfold alikeB at h
  simp only [List.all_eq_true, Bool.and_eq_true] at h
  refine ⟨fun x hx y hy => (h x hx).2 y hy, fun x hx e => ?_⟩
  subst e
  exact absurd (h _ hx).1 Bool.false_ne_true
def oMin : List PyData → Option PyData
  | [.int i, .int j] => some (.int (if j < i then j else i))
  | [.list (x :: xs)] => if alikeB (x :: xs) && okdAll (x :: xs) then some (PySem.W.minD x xs) else none
  | [.tuple (x :: xs)] => if alikeB (x :: xs) && okdAll (x :: xs) then some (PySem.W.minD x xs) else none
  | _ => none
def oMax : List PyData → Option PyData
  | [.int i, .int j] => some (.int (if j > i then j else i))
  | [.list (x :: xs)] => if alikeB (x :: xs) && okdAll (x :: xs) then some (PySem.W.maxD x xs) else none
  | [.tuple (x :: xs)] => if alikeB (x :: xs) && okdAll (x :: xs) then some (PySem.W.maxD x xs) else none
  | _ => none
/-- one of the items, by what it reads as -/
def rPickD (K : PySem.W.Frag) (o : PyData → List PyData → PyData) : List V → Hp → VK → Prop := fun vs H Q => ∃ (a : Addr) (ws : List V) (x : PyData) (xs : List PyData), vs = [.ref a] ∧ (SqL K H a ws ∨ SqT K H a ws) ∧ DpAll K H ws (x :: xs) ∧
  alikeB (x :: xs) = true ∧ okdAll (x :: xs) = true ∧ ∀ (i : Nat) v, ws[i]? = some v → (x :: xs)[i]? = some (o x xs) → Q v H
theorem dpAll_get {K : PySem.W.Frag} {H : Hp} : ∀ {ds : List PyData} {vs : List V} {i : Nat} {v : V}, DpAll K H vs ds → vs[i]? = some v → ∃ d, ds[i]? = some d ∧ Dp K H v d
  | _, _, _, _, .nil, e => by simp at e
  | _, _, 0, _, .cons h1 h2, e => by
    simp at e
    subst e
    exact ⟨_, rfl, h1⟩
  | _, _, i + 1, v, .cons h1 h2, e => by
    obtain ⟨d, e1, e2⟩ := dpAll_get (i := i) (v := v) h2 (by simpa using e)
    exact ⟨d, by simpa using e1, e2⟩
theorem plain_all_get {ds : List PyData} {d : PyData} (h : PyData.plainAll ds = true) (hd : d ∈ ds) : d.plain = true := by
  induction ds with
  | nil => cases hd
  | cons x r ih =>
    rw [PyData.plainAll, Bool.and_eq_true] at h
    rcases List.mem_cons.mp hd with e | e
    · subst e; exact h.1
    · exact ih h.2 e
theorem vals_back {ws : List V} {us : List Value} {i : Nat} {u : Value} (r : Vals ws us) (h : us[i]? = some u) : ∃ v, ws[i]? = some v ∧ RelV v u := by
  cases hw : ws[i]? with
  | none =>
    have := r.none_of hw
    rw [h] at this
    cases this
  | some v =>
    obtain ⟨u', e, rv⟩ := r.get hw
    rw [h] at e
    cases e
    exact ⟨v, rfl, rv⟩
theorem pick_end {pins : List (Addr × Obj)} {σ : St} {H : Hp} {s : Shared} {Q : VK} {ws : List V} {its : List Value} {x m : PyData} {xs : List PyData} (I : Inv X pins σ H s) (rv : Vals ws its) (hd : DpAll X.K H ws (x :: xs)) (hp : PyData.plainAll (x :: xs) = true)
    (q : ∀ (i : Nat) v, ws[i]? = some v → (x :: xs)[i]? = some m → Q v H) : ∀ (i : Nat) u h' tk bs, its.toArray[i]? = some u → Reads h' u m bs → (∀ b o, s.heap.get? b = some o → h'.get? b = some o) → EP X pins σ Q u { s with heap := h', toks := tk } := by
  intro i u h' tk bs hu hr hk
  obtain ⟨v, e1, r1⟩ := vals_back rv (by simpa using hu)
  obtain ⟨d, e2, hd2⟩ := dpAll_get hd e1
  obtain ⟨as, hr2⟩ := Dp.reads I d v u hd2 r1
  have e3 := PySem.SeqAt.plain_unique d m u _ _ (plain_all_get hp (List.mem_of_getElem? e2)) (PySem.W.reads_keeps hk hr2) hr
  rw [e3] at e2
  exact ⟨v, H, I.kept hk, r1, q i v e1 e2⟩
theorem cr_minD (hc : X.calm = true) (hu : X.A.units + 200 < cLine) : CallR X (.builtin "min") (rPickD X.K PySem.W.minD) := by
  intro pins s σ H vs us Q I r h
  obtain ⟨a, ws, x, xs, rfl, hs, hd, ha, hp, q⟩ := h
  have hp' := okdAll_plain hp
  have hdp : X.A.units + 1 + PyData.depthAll (x :: xs) < cLine := by have := hp'.2; omega
  rw [Vals.ref1 r]
  rcases hs with hs | hs
  · obtain ⟨its, rv, hl, hz⟩ := I.list hs
    obtain ⟨as, hr⟩ := Dp.readsAll I (x :: xs) ws its hd rv
    exact PySem.W.min_list_data (I.ok.hd hc) hl.isList (by simpa using hr) (alikeB_of ha) hdp (pick_end I rv hd hp'.1 q)
  · obtain ⟨its, rv, hl, hz⟩ := I.tuple hs
    obtain ⟨as, hr⟩ := Dp.readsAll I (x :: xs) ws its hd rv
    exact PySem.W.min_tuple_data (I.ok.hd hc) hl (by simpa using hr) (alikeB_of ha) hdp (pick_end I rv hd hp'.1 q)
theorem cr_maxD (hc : X.calm = true) (hu : X.A.units + 200 < cLine) : CallR X (.builtin "max") (rPickD X.K PySem.W.maxD) := by
  intro pins s σ H vs us Q I r h
  obtain ⟨a, ws, x, xs, rfl, hs, hd, ha, hp, q⟩ := h
  have hp' := okdAll_plain hp
  have hdp : X.A.units + 1 + PyData.depthAll (x :: xs) < cLine := by have := hp'.2; omega
  rw [Vals.ref1 r]
  rcases hs with hs | hs
  · obtain ⟨its, rv, hl, hz⟩ := I.list hs
    obtain ⟨as, hr⟩ := Dp.readsAll I (x :: xs) ws its hd rv
    exact PySem.W.max_list_data (I.ok.hd hc) hl.isList (by simpa using hr) (alikeB_of ha) hdp (pick_end I rv hd hp'.1 q)
  · obtain ⟨its, rv, hl, hz⟩ := I.tuple hs
    obtain ⟨as, hr⟩ := Dp.readsAll I (x :: xs) ws its hd rv
    exact PySem.W.max_tuple_data (I.ok.hd hc) hl (by simpa using hr) (alikeB_of ha) hdp (pick_end I rv hd hp'.1 q)
def rMinA (K : PySem.W.Frag) : List V → Hp → VK → Prop := fun xs H Q => (∃ i j, xs = [.int i, .int j] ∧ Q (.int (if j < i then j else i)) H) ∨ rPickD K PySem.W.minD xs H Q
def rMaxA (K : PySem.W.Frag) : List V → Hp → VK → Prop := fun xs H Q => (∃ i j, xs = [.int i, .int j] ∧ Q (.int (if j > i then j else i)) H) ∨ rPickD K PySem.W.maxD xs H Q
theorem cr_minA (hc : X.calm = true) (hu : X.A.units + 200 < cLine) : CallR X (.builtin "min") (rMinA X.K) := (call_min2 hc).or (cr_minD hc hu)
theorem cr_maxA (hc : X.calm = true) (hu : X.A.units + 200 < cLine) : CallR X (.builtin "max") (rMaxA X.K) := (call_max2 hc).or (cr_maxD hc hu)
theorem s_pick {K : PySem.W.Frag} {o : PyData → List PyData → PyData} {F H : Hp} {vs : List V} {x : PyData} {xs : List PyData} {Q : VK} (s : Same F H) (d : DpRs K F H vs [.list (x :: xs)] ∨ DpRs K F H vs [.tuple (x :: xs)]) (hk : (alikeB (x :: xs) && okdAll (x :: xs)) = true)
    (k1 : ∀ u, Dq K F u (o x xs) → Q u H) : rPickD K o vs H Q := by
  simp only [Bool.and_eq_true] at hk
  have fin : ∀ {ws : List V}, DqAll K F ws (x :: xs) → ∀ (i : Nat) v, ws[i]? = some v → (x :: xs)[i]? = some (o x xs) → Q v H := fun {ws} h2 i v e1 e2 => by
    obtain ⟨v', e3, h3⟩ := dpa_get h2 e2
    rw [e1] at e3
    cases e3
    exact k1 _ h3
  rcases d with d | d
  · obtain ⟨v, rfl, h⟩ := dprs1 d
    obtain ⟨a, ws, rfl, h1, h2⟩ := h.list s
    exact ⟨a, ws, x, xs, rfl, .inl h1, dqa_dpa _ _ (dpa_mono s _ _ h2), hk.1, hk.2, fin h2⟩
  · obtain ⟨v, rfl, h⟩ := dprs1 d
    obtain ⟨a, ws, rfl, h1, h2⟩ := h.tuple s
    exact ⟨a, ws, x, xs, rfl, .inr h1, dqa_dpa _ _ (dpa_mono s _ _ h2), hk.1, hk.2, fin h2⟩
theorem s_min {K : PySem.W.Frag} : SB K (rMinA K) oMin := by
  intro F H vs xs z Q s d e k1 k2
  unfold oMin at e
  split at e
  · obtain ⟨v, w, rfl, h1, h2⟩ := dprs2 d
    cases h1.int
    cases h2.int
    cases e
    exact .inl ⟨_, _, rfl, k1 _ (.int _)⟩
  · split at e
    · rename_i hk
      cases e
      exact .inr (s_pick s (.inl d) hk k1)
    · cases e
  · split at e
    · rename_i hk
      cases e
      exact .inr (s_pick s (.inr d) hk k1)
    · cases e
  · cases e
theorem s_max {K : PySem.W.Frag} : SB K (rMaxA K) oMax := by
  intro F H vs xs z Q s d e k1 k2
  unfold oMax at e
  split at e
  · obtain ⟨v, w, rfl, h1, h2⟩ := dprs2 d
    cases h1.int
    cases h2.int
    cases e
    exact .inl ⟨_, _, rfl, k1 _ (.int _)⟩
  · split at e
    · rename_i hk
      cases e
      exact .inr (s_pick s (.inl d) hk k1)
    · cases e
  · split at e
    · rename_i hk
      cases e
      exact .inr (s_pick s (.inr d) hk k1)
    · cases e
  · cases e

/-! sum, all, any of lists -/
def toInts : List PyData → Option (List Int)
  | [] => some []
  | .int i :: r => (toInts r).bind fun is => some (i :: is)
  | _ :: _ => none
def toBls : List PyData → Option (List Bool)
  | [] => some []
  | .bool i :: r => (toBls r).bind fun is => some (i :: is)
  | _ :: _ => none
theorem toInts_eq : ∀ {xs : List PyData} {is : List Int}, toInts xs = some is → xs = is.map .int
  | [], _, e => by cases e; rfl
  | .int i :: r, is, e => by
    simp only [toInts, Option.bind_eq_some_iff] at e
    obtain ⟨js, e1, e2⟩ := e
    cases e2
    rw [toInts_eq e1]
    rfl
  | .none :: _, _, e => by cases e
  | .bool _ :: _, _, e => by cases e
  | .str _ :: _, _, e => by cases e
  | .list _ :: _, _, e => by cases e
  | .tuple _ :: _, _, e => by cases e
  | .dict _ :: _, _, e => by cases e
theorem toBls_eq : ∀ {xs : List PyData} {is : List Bool}, toBls xs = some is → xs = is.map .bool
  | [], _, e => by cases e; rfl
  | .bool i :: r, is, e => by
    simp only [toBls, Option.bind_eq_some_iff] at e
    obtain ⟨js, e1, e2⟩ := e
    cases e2
    rw [toBls_eq e1]
    rfl
  | .none :: _, _, e => by cases e
  | .int _ :: _, _, e => by cases e
  | .str _ :: _, _, e => by cases e
  | .list _ :: _, _, e => by cases e
  | .tuple _ :: _, _, e => by cases e
  | .dict _ :: _, _, e => by cases e
def oSum : List PyData → Option PyData
  | [.list xs] => (toInts xs).bind fun is => some (.int is.sum)
  | _ => none
def oAll : List PyData → Option PyData
  | [.list xs] => (toBls xs).bind fun is => some (.bool (is.all id))
  | _ => none
def oAny : List PyData → Option PyData
  | [.list xs] => (toBls xs).bind fun is => some (.bool (is.any id))
  | _ => none
theorem s_sum {K : PySem.W.Frag} : SB K (rSum K) oSum := by
  intro F H vs xs z Q s d e k1 k2
  unfold oSum at e
  split at e
  · simp only [Option.bind_eq_some_iff] at e
    obtain ⟨is, e1, e2⟩ := e
    cases e2
    obtain ⟨v, rfl, h⟩ := dprs1 d
    obtain ⟨a, ws, rfl, h1, h2⟩ := h.list s
    rw [toInts_eq e1] at h2
    rw [dpa_ints h2] at h1
    exact ⟨a, is, rfl, h1, k1 _ (.int _)⟩
  · cases e
theorem s_all {K : PySem.W.Frag} : SB K (rAll K) oAll := by
  intro F H vs xs z Q s d e k1 k2
  unfold oAll at e
  split at e
  · simp only [Option.bind_eq_some_iff] at e
    obtain ⟨is, e1, e2⟩ := e
    cases e2
    obtain ⟨v, rfl, h⟩ := dprs1 d
    obtain ⟨a, ws, rfl, h1, h2⟩ := h.list s
    rw [toBls_eq e1] at h2
    rw [dpa_bls h2] at h1
    exact ⟨a, is, rfl, h1, k1 _ (.bl _)⟩
  · cases e
theorem s_any {K : PySem.W.Frag} : SB K (rAny K) oAny := by
  intro F H vs xs z Q s d e k1 k2
  unfold oAny at e
  split at e
  · simp only [Option.bind_eq_some_iff] at e
    obtain ⟨is, e1, e2⟩ := e
    cases e2
    obtain ⟨v, rfl, h⟩ := dprs1 d
    obtain ⟨a, ws, rfl, h1, h2⟩ := h.list s
    rw [toBls_eq e1] at h2
    rw [dpa_bls h2] at h1
    exact ⟨a, is, rfl, h1, k1 _ (.bl _)⟩
  · cases e

/-! repr -/
def oRepr : List PyData → Option PyData
  | [d] => if d.showable && okd d && decide (d.shown.length ≤ sizeLine) then some (.str d.shown) else none
  | _ => none
def rReprD (K : PySem.W.Frag) : List V → Hp → VK → Prop := fun vs H Q => ∃ (v : V) (d : PyData), vs = [v] ∧ Dp K H v d ∧ d.showable = true ∧ d.plain = true ∧ d.depth ≤ 64 ∧ d.shown.length ≤ sizeLine ∧ (∀ a, v = .ref a → True) ∧ Q (.str d.shown) H
mutual
theorem noDict_of_plain : ∀ d : PyData, d.plain = true → d.hasDict = false
  | .none, _ => by simp [PyData.hasDict]
  | .bool _, _ => by simp [PyData.hasDict]
  | .int _, _ => by simp [PyData.hasDict]
  | .str _, _ => by simp [PyData.hasDict]
  | .list xs, h => by
    rw [PyData.hasDict]
    exact noDict_of_plainAll xs (by rw [PyData.plain] at h; exact h)
  | .tuple xs, h => by
    rw [PyData.hasDict]
    exact noDict_of_plainAll xs (by rw [PyData.plain] at h; exact h)
  | .dict _, h => by rw [PyData.plain] at h; cases h
theorem noDict_of_plainAll : ∀ ds : List PyData, PyData.plainAll ds = true → PyData.hasDictAll ds = false
  | [], _ => by simp [PyData.hasDictAll]
  | d :: ds, h => by
    rw [PyData.plainAll, Bool.and_eq_true] at h
    rw [PyData.hasDictAll, noDict_of_plain d h.1, noDict_of_plainAll ds h.2]
    rfl
end
end
end L2.FL
set_option Elab.async false
set_option linter.all false
set_option maxRecDepth 100000
set_option maxHeartbeats 2000000
/-! FL5: repr, isinstance, list(), sorted(), slices; list * int; methods of lists that only read. -/
namespace L2.FL
open PySem PySem.Spec PyProof.Rows L2

section
variable {X : Cx}
theorem cr_reprD (hg : X.A.guards = some []) (hu : X.A.units + 200 < cLine) : CallR X (.builtin "repr") (rReprD X.K) := by
  intro pins s σ H vs us Q I r h
  obtain ⟨v, d, rfl, hd, hs, hp, h64, hz, _, q⟩ := h
  obtain ⟨u, rfl, ru⟩ := vals1 r
  obtain ⟨as, hr⟩ := Dp.reads I d v u hd ru
  have fin : ∀ h' tk t, (∀ b o, s.heap.get? b = some o → h'.get? b = some o) → EP X pins σ Q (.str d.shown t) { s with heap := h', toks := tk } := fun h' tk t k => ⟨.str d.shown, H, I.kept k, ⟨t, rfl⟩, q⟩
  have fin0 : ∀ tk t, EP X pins σ Q (.str d.shown t) { s with toks := tk } := fun tk t => fin s.heap tk t fun _ _ e => e
  cases hd with
  | non => cases ru; exact PySem.P.repr_of_none (fin0 _ _)
  | bl b => cases ru; exact PySem.P.repr_of_bool (fin0 _ _)
  | int i =>
    obtain ⟨t, rfl⟩ := ru
    exact PySem.P.repr_of_int (by simpa [PyData.showable] using hs) (fin0 _ _)
  | str x =>
    obtain ⟨t, rfl⟩ := ru
    exact PySem.P.repr_of_str (fin0 _ _) (by simpa [PyData.shown] using hz)
  | lst h1 h2 =>
    cases ru
    exact repr_of_reads' hr hs (fun e => by rw [noDict_of_plain _ hp] at e; cases e) hg (by omega) (fun _ _ e => e) (fun h' t tk k => fin h' tk t k) hz
  | tup h1 h2 =>
    cases ru
    exact repr_of_reads' hr hs (fun e => by rw [noDict_of_plain _ hp] at e; cases e) hg (by omega) (fun _ _ e => e) (fun h' t tk k => fin h' tk t k) hz
theorem s_repr {K : PySem.W.Frag} : SB K (rReprD K) oRepr := by
  intro F H vs xs z Q s d e k1 k2
  unfold oRepr at e
  split at e
  · rename_i dd
    split at e
    · rename_i hk
      simp only [Bool.and_eq_true, decide_eq_true_eq] at hk
      cases e
      obtain ⟨v, rfl, h⟩ := dprs1 d
      have hp := okd_plain hk.1.2
      exact ⟨v, dd, rfl, dq_dp _ _ (h.now s), hk.1.1, hp.1, hp.2, hk.2, fun _ _ => trivial, k1 _ (.str _)⟩
    · cases e
  · cases e

/-! isinstance(e, T), T a built-in type by its name -/
def tyOf : PyData → String
  | .none => "NoneType"
  | .bool _ => "bool"
  | .int _ => "int"
  | .str _ => "str"
  | .list _ => "list"
  | .tuple _ => "tuple"
  | .dict _ => "dict"
/-- T's subclasses among these -/
def isKind (T : String) (x : PyData) : Option PyData := match kitB (tyOf x) T with
  | some b => some (.bool b)
  | none => none
theorem tyx_of {K : PySem.W.Frag} {H : Hp} {v : V} {d : PyData} (h : Dp K H v d) : TyX K H v (.type (tyOf d)) := by
  cases h with
  | non => exact .base .non
  | bl b => exact .base (.bl b)
  | int i => exact .base (.int i)
  | str x => exact .base (.str x)
  | lst h1 h2 =>
    rcases h1 with (h1 | ⟨o, h1⟩) | ⟨o, its, n, h1, h3, _⟩
    · exact .base (.lst h1)
    · exact .base (.frz h1)
    · exact .kList h1 h3
  | tup h1 h2 =>
    rcases h1 with (h1 | ⟨o, h1⟩) | ⟨o, its, n, h1, h3, _⟩
    · exact .base (.tup h1)
    · exact .fTuple h1
    · exact .kTuple h1 h3
theorem se_isi {T : String} {x y : Str} {p p2 pos : Pos} {e : Expr} {f : EF} (he : SE X e f) (hg : Gl X x) (hm : X.mg x = none) (hv : bootBuiltins x = some (.builtin "isinstance")) (hg2 : Gl X y) (hm2 : X.mg y = none) (hv2 : bootBuiltins y = some (.type T))
    (hn : x ≠ "__name__" := by decide) (hdb : (x == ("__debug__" : Str)) = false := by decide) (hn2 : y ≠ "__name__" := by decide) (hdb2 : (y == ("__debug__" : Str)) = false := by decide)
    (h1 : starEach [e, .Name y p2] X.env = (false, eval e X.env) :: starEach [.Name y p2] X.env := by rfl) (h2 : starEach [.Name y p2] X.env = (false, eval (.Name y p2) X.env) :: starEach [] X.env := by rfl) (hpl : (backTo pos (starEach [.Name y p2] X.env)).any (·.1) = false := by rfl) :
    SE X (.Call (.Name x p) [e, .Name y p2] [] pos) (f1 (isKind T) f) := by
  obtain ⟨t, hp, ht⟩ := he.run
  refine ⟨_, pe_callB call_isi hg hm hv (pa_cons hp (pa_cons (pe_bltn (v := .ty T) hg2 hm2 hv2 rfl hn2 hdb2) pa_nil h2) h1) hn hdb h1 hpl, fun W σ H en r en' Q hR hf q => ?_⟩
  simp only [f1, Option.bind_eq_some_iff] at hf
  obtain ⟨⟨q1, en1⟩, e1, d, e2, z, e3, hf⟩ := hf
  cases hf
  refine ht W σ H en q1 _ _ hR e1 fun v W1 H1 x1 R1 v1 => ?_
  unfold isKind at e3
  split at e3
  · rename_i b eb
    cases e3
    exact ⟨v, .ty T, .type (tyOf d), .type T, b, rfl, .ty T, tyx_of (dq_dp _ _ ((R1.res v1 e2).now R1.subF)), kit_ty eb, q _ W1 H1 x1 R1 (.bl b)⟩
  · cases e3

/-! ### new lists by calls -/
def SBL (K : PySem.W.Frag) (r : List V → Hp → VK → Prop) (o : List PyData → Option (List PyData)) : Prop := ∀ (F H : Hp) (vs : List V) (xs zs : List PyData) (Q : VK), Same F H → DpRs K F H vs xs → o xs = some zs →
  (∀ p ws, H p = none → DqAll K F ws zs → Q (.ref p) (upd H p (.lst ws))) → r vs H Q
def fBL (o : List PyData → Option (List PyData)) (f : AF) : LF := fun en => (f en).bind fun p => (resL p.2 p.1).bind fun xs => (o xs).bind fun zs => some (zs, p.2)
theorem slt_b {r : List V → Hp → VK → Prop} {o : List PyData → Option (List PyData)} {t : TA} {f : AF} (h : SAt X.K t f) (s : SBL X.K r o) : SLt X.K (tCB r t) (fBL o f) := by
  intro W σ H en zs0 en' Q hR hf q
  simp only [fBL, Option.bind_eq_some_iff] at hf
  obtain ⟨⟨q1, en1⟩, e1, xs, e2, zs, e3, hf⟩ := hf
  cases hf
  refine h W σ H en q1 _ _ hR e1 fun vs W1 H1 x1 R1 v1 => ?_
  refine s W1.F H1 vs xs _ Q R1.subF (R1.resL v1 e2) e3 fun p ws hp hw => ?_
  exact q p ws _ _ x1 (R1.laid _ hp) upd_same hw (R1.freshF hp) (R1.freshG hp) (R1.unowned hp)
theorem sl_callB {id : String} {r : List V → Hp → VK → Prop} {o : List PyData → Option (List PyData)} {x : Str} {p pos : Pos} {e : Expr} {es : List Expr} {f : AF} (hc : CallR X (.builtin id) r) (s : SBL X.K r o) (hg : Gl X x) (hm : X.mg x = none) (hv : bootBuiltins x = some (.builtin id)) (ha : SA X (e :: es) f)
    (hn : x ≠ "__name__" := by decide) (hdb : (x == ("__debug__" : Str)) = false := by decide)
    (he : starEach (e :: es) X.env = (false, eval e X.env) :: starEach es X.env := by rfl) (hpl : (backTo pos (starEach es X.env)).any (·.1) = false := by rfl) : SL X (.Call (.Name x p) (e :: es) [] pos) (fBL o f) := by
  obtain ⟨t, hp, ht⟩ := ha.run
  exact ⟨_, pe_callB hc hg hm hv hp hn hdb he hpl, slt_b ht s⟩
theorem sl_callTy {T : String} {r : List V → Hp → VK → Prop} {o : List PyData → Option (List PyData)} {x : Str} {p pos : Pos} {e : Expr} {es : List Expr} {f : AF} (hc : CallR X (.type T) r) (s : SBL X.K r o) (hg : Gl X x) (hm : X.mg x = none) (hv : bootBuiltins x = some (.type T)) (ha : SA X (e :: es) f)
    (hn : x ≠ "__name__" := by decide) (hdb : (x == ("__debug__" : Str)) = false := by decide)
    (he : starEach (e :: es) X.env = (false, eval e X.env) :: starEach es X.env := by rfl) (hpl : (backTo pos (starEach es X.env)).any (·.1) = false := by rfl) : SL X (.Call (.Name x p) (e :: es) [] pos) (fBL o f) := by
  obtain ⟨t, hp, ht⟩ := ha.run
  exact ⟨_, pe_callTy hc hg hm hv hp hn hdb he hpl, slt_b ht s⟩
def oListOf : List PyData → Option (List PyData)
  | [.list xs] => some xs
  | [.tuple xs] => some xs
  | _ => none
def rListA (K : PySem.W.Frag) : List V → Hp → VK → Prop := fun xs H Q => ∃ p ys, xs = [.ref p] ∧ (SqL K H p ys ∨ SqT K H p ys) ∧ ∀ l, H l = none → Q (.ref l) (upd H l (.lst ys))
theorem s_listOf {K : PySem.W.Frag} : SBL K (rListA K) oListOf := by
  intro F H vs xs zs Q s d e k
  unfold oListOf at e
  split at e
  · obtain ⟨v, rfl, h⟩ := dprs1 d
    obtain ⟨a, ws, rfl, h1, h2⟩ := h.list s
    cases e
    exact ⟨a, ws, rfl, .inl h1, fun l hl => k l ws hl h2⟩
  · obtain ⟨v, rfl, h⟩ := dprs1 d
    obtain ⟨a, ws, rfl, h1, h2⟩ := h.tuple s
    cases e
    exact ⟨a, ws, rfl, .inr h1, fun l hl => k l ws hl h2⟩
  · cases e

/-! sorted(xs) of a list -/
def sortD (xs : List PyData) : List PyData := xs.mergeSort (PySem.W.dataLe false id)
def sortOk (xs : List PyData) : Bool := (xs.all fun x => xs.all fun y => PySem.W.alike x y) && okdAll xs && decide (xs.length ≤ sizeLine) && ((xs.all fun x => match x with | .tuple (_ :: _) => true | _ => false) || (xs.all fun x => match x with | .tuple _ => false | .none => false | _ => true))
def oSorted : List PyData → Option (List PyData)
  | [.list xs] => if sortOk xs then some (sortD xs) else none
  | _ => none
def rSortD (K : PySem.W.Frag) : List V → Hp → VK → Prop := fun vs H Q => ∃ (a : Addr) (ws : List V) (xs : List PyData), vs = [.ref a] ∧ SqL K H a ws ∧ DpAll K H ws xs ∧ sortOk xs = true ∧
  ∀ (out : List V) p, H p = none → Paired (fun v d => ∃ i : Nat, ws[i]? = some v ∧ xs[i]? = some d) out (sortD xs) → Q (.ref p) (upd H p (.lst out))
theorem depth_le_all {ds : List PyData} {d : PyData} (hd : d ∈ ds) : d.depth ≤ PyData.depthAll ds := by
  induction ds with
  | nil => cases hd
  | cons x r ih =>
    rw [PyData.depthAll]
    rcases List.mem_cons.mp hd with e | e
    · subst e; exact Nat.le_max_left _ _
    · exact Nat.le_trans (ih e) (Nat.le_max_right _ _)
theorem sortOk_of {xs : List PyData} (h : sortOk xs = true) : PySem.W.AllAlike xs ∧ PySem.W.Sortable xs ∧ PyData.plainAll xs = true ∧ PyData.depthAll xs ≤ 64 ∧ xs.length ≤ sizeLine := by
  unfold sortOk at h
  simp only [Bool.and_eq_true, Bool.or_eq_true, List.all_eq_true, decide_eq_true_eq] at h
  obtain ⟨⟨⟨h1, h2⟩, h3⟩, h4⟩ := h
  have hp := okdAll_plain h2
  refine ⟨fun d hd d' hd' => h1 d hd d' hd', ?_, hp.1, hp.2, h3⟩
  rcases h4 with h4 | h4
  · refine .inl fun d hd => ?_
    have := h4 d hd
    split at this
    · exact ⟨_, _, rfl⟩
    · cases this
  · refine .inr fun d hd => ⟨fun e => ?_, fun ys e => ?_⟩
    · have := h4 d hd
      subst e
      cases this
    · have := h4 d hd
      subst e
      cases this
theorem each_ix {h : Heap} {K : PySem.W.Frag} {H : Hp} {ws : List V} {its : List Value} {xs : List PyData} (rv : Vals ws its) (hl : its.length = xs.length) : PySem.W.EachIs (fun u (d : PyData) => ∃ (i : Nat) (v : V), ws[i]? = some v ∧ xs[i]? = some d ∧ RelV v u) its xs := by
  have go : ∀ (k : Nat) (us : List Value) (ds : List PyData), us.length = ds.length → (∀ j u, us[j]? = some u → its[k + j]? = some u) → (∀ j d, ds[j]? = some d → xs[k + j]? = some d) →
      PySem.W.EachIs (fun u (d : PyData) => ∃ (i : Nat) (v : V), ws[i]? = some v ∧ xs[i]? = some d ∧ RelV v u) us ds := by
    intro k us
    induction us generalizing k with
    | nil =>
      intro ds hl _ _
      cases ds with
      | nil => exact .nil
      | cons d r => simp at hl
    | cons u us ih =>
      intro ds hl h1 h2
      cases ds with
      | nil => simp at hl
      | cons d r =>
        refine .cons ?_ (ih (k + 1) r (by simpa using hl) (fun j w e => ?_) (fun j w e => ?_))
        · have e1 := h1 0 u rfl
          have e2 := h2 0 d rfl
          obtain ⟨v, e3, r3⟩ := vals_back rv e1
          exact ⟨k + 0, v, e3, e2, r3⟩
        · have := h1 (j + 1) w (by simpa using e)
          rw [show k + 1 + j = k + (j + 1) by omega]
          exact this
        · have := h2 (j + 1) w (by simpa using e)
          rw [show k + 1 + j = k + (j + 1) by omega]
          exact this
  exact go 0 its xs hl (fun j u e => by simpa using e) (fun j d e => by simpa using e)
theorem paired_of_each {α β γ : Type} {T : α → β → Prop} {Rl : γ → α → Prop} {S : γ → β → Prop} (hh : ∀ a b, T a b → ∃ c, Rl c a ∧ S c b) : ∀ {as : List α} {bs : List β}, PySem.W.EachIs T as bs → ∃ cs, Paired Rl cs as ∧ Paired S cs bs
  | _, _, .nil => ⟨[], .nil, .nil⟩
  | _, _, .cons h t => by
    obtain ⟨c, h1, h2⟩ := hh _ _ h
    obtain ⟨cs, h3, h4⟩ := paired_of_each hh t
    exact ⟨c :: cs, .cons h1 h3, .cons h2 h4⟩
theorem dpAll_length {K : PySem.W.Frag} {H : Hp} : ∀ {ds : List PyData} {vs : List V}, DpAll K H vs ds → vs.length = ds.length
  | _, _, .nil => rfl
  | _, _, .cons h1 h2 => by simp [dpAll_length h2]
theorem cr_sortD (hu : X.A.units + 200 < cLine) : CallR X (.builtin "sorted") (rSortD X.K) := by
  intro pins s σ H vs us Q I r h
  obtain ⟨a, ws, xs, rfl, hs, hd, hk, q⟩ := h
  obtain ⟨k1, k2, k3, k4, k5⟩ := sortOk_of hk
  rw [Vals.ref1 r]
  obtain ⟨its, rv, hl, hz⟩ := I.list hs
  obtain ⟨as, hr⟩ := Dp.readsAll I xs ws its hd rv
  have hlen : its.length = xs.length := by rw [← rv.length]; exact dpAll_length hd
  have hal : PySem.W.AllAlike (xs.map (id : PyData → PyData)) := by rw [List.map_id]; exact k1
  have hso : PySem.W.Sortable (xs.map (id : PyData → PyData)) := by rw [List.map_id]; exact k2
  refine PySem.W.sorted_data (enc := (id : PyData → PyData)) (bs := xs) hl.isList (each_ix (h := s.heap) (K := X.K) (H := H) rv hlen) (PySem.W.readsAll_each id (by rw [List.map_id]; exact hr)) hal hso k5
    (fun b hb => by have := depth_le_all hb; show X.A.units + 2 + b.depth < cLine; omega) fun out h1 h2 => ?_
  obtain ⟨cs, p1, p2⟩ := paired_of_each (Rl := RelV) (S := fun v d => ∃ i : Nat, ws[i]? = some v ∧ xs[i]? = some d) (fun u d ⟨i, v, e1, e2, e3⟩ => ⟨v, e3, i, e1, e2⟩) h2
  obtain ⟨ep, he⟩ := PyProof.Rows.sortedAll_at s.heap its out.toArray
  have hcl : cs.length ≤ sizeLine := by rw [Paired.length p1, h1]; exact k5
  exact ⟨.ref (s.heap.objs.size + 1), upd H (s.heap.objs.size + 1) (.lst cs), I.laid (t' := s.toks) (fun _ _ => PyProof.Rows.sortedAll_old) (Nat.le_succ _) ⟨hcl, out, ep, p1, he⟩, rfl, q cs _ (I.hok.fresh (Nat.le_succ _)) p2⟩
theorem paired_dqa {K : PySem.W.Frag} {F : Hp} {P : V → PyData → Prop} (h : ∀ v d, P v d → Dq K F v d) : ∀ {vs : List V} {ds : List PyData}, Paired P vs ds → DqAll K F vs ds
  | _, _, .nil => .nil
  | _, _, .cons a b => .cons (h _ _ a) (paired_dqa h b)
theorem s_sorted {K : PySem.W.Frag} : SBL K (rSortD K) oSorted := by
  intro F H vs xs zs Q s d e k
  unfold oSorted at e
  split at e
  · split at e
    · rename_i hk
      cases e
      obtain ⟨v, rfl, h⟩ := dprs1 d
      obtain ⟨a, ws, rfl, h1, h2⟩ := h.list s
      refine ⟨a, ws, _, rfl, h1, dqa_dpa _ _ (dpa_mono s _ _ h2), hk, fun out p hp ho => k p out hp (paired_dqa (fun v d ⟨i, e1, e2⟩ => ?_) ho)⟩
      obtain ⟨v', e3, h3⟩ := dpa_get h2 e2
      rw [e1] at e3
      cases e3
      exact h3
    · cases e
  · cases e

/-! ### slices -/
abbrev OF := En → Option (Option Int × En)
def SOt (K : PySem.W.Frag) (t : TO) (f : OF) : Prop := ∀ (W : Wd) (σ : St) (H : Hp) (en : En) (r : Option Int) (en' : En) (Q : Option Int → Hp → Prop), R K W σ H en → f en = some (r, en') →
  (∀ W' H', Ext W W' → R K W' σ H' en' → Q r H') → t σ H Q
structure SO (X : Cx) (e : Option Expr) (f : OF) : Prop where
  run : ∃ t, PO X e t ∧ SOt X.K t f
def fNoPart : OF := fun en => some (none, en)
def fPart (f : EF) : OF := fun en => (f en).bind fun p => match p.1 with
  | .d (.int i) => some (some i, p.2)
  | _ => none
theorem so_none : SO X none fNoPart := ⟨_, po_none, fun W σ H en r en' Q hR hf q => by cases hf; exact q W H (Ext.refl _) hR⟩
theorem so_some {e : Expr} {f : EF} (h : SE X e f) : SO X (some e) (fPart f) := by
  obtain ⟨t, hp, ht⟩ := h.run
  refine ⟨_, po_some hp, fun W σ H en r en' Q hR hf q => ?_⟩
  simp only [fPart, Option.bind_eq_some_iff] at hf
  obtain ⟨⟨c, en1⟩, e1, hf⟩ := hf
  refine ht W σ H en c en1 _ hR e1 fun v W1 H1 x1 R1 v1 => ?_
  simp only at hf
  split at hf
  · rename_i i
    cases hf
    have v1' : Dq X.K W1.F v (.int i) := v1
    cases v1'
    exact ⟨i, rfl, q W1 H1 x1 R1⟩
  · cases hf
/-- the places of a slice -/
def cutD (xs : List PyData) (lo hi : Option Int) : List PyData := (xs.drop (HT.sIx xs.length 0 lo)).take (HT.sIx xs.length xs.length hi - HT.sIx xs.length 0 lo)
theorem cut_dqa {K : PySem.W.Frag} {F : Hp} {vs : List V} {xs : List PyData} (lo hi : Option Int) (h : DqAll K F vs xs) : DqAll K F (cutV vs lo hi) (cutD xs lo hi) := by
  unfold cutV cutD
  rw [dpa_length h]
  exact dpa_take _ (dpa_drop _ h)
theorem cut_whole {xs : List PyData} {lo hi : Option Int} (h : HT.sIx xs.length 0 lo = 0 ∧ HT.sIx xs.length xs.length hi = xs.length) : cutD xs lo hi = xs := by
  unfold cutD
  rw [h.1, h.2]
  simp
def fSlL (f : EF) (lo hi : OF) : LF := fun en => (f en).bind fun p => (lo p.2).bind fun q => (hi q.2).bind fun r => (res r.2 p.1).bind fun x => match x with
  | .list xs => some (cutD xs q.1 r.1, r.2)
  | _ => none
def fSl (f : EF) (lo hi : OF) : EF := fun en => (f en).bind fun p => (lo p.2).bind fun q => (hi q.2).bind fun r => (res r.2 p.1).bind fun x => match x with
  | .tuple xs => some (.d (.tuple (cutD xs q.1 r.1)), r.2)
  | .list xs => some (.d (.list (cutD xs q.1 r.1)), r.2)
  | .str z => if z.length ≤ sizeLine then some (.d (.str (cutS z q.1 r.1)), r.2) else none
  | _ => none
theorem sl_slice {e : Expr} {lo hi : Option Expr} {f : EF} {g h : OF} {p2 pos : Pos} (he : SE X e f) (hl : SO X lo g) (hh : SO X hi h) : SL X (.Subscript e (.Slice lo hi none p2) pos) (fSlL f g h) := by
  obtain ⟨t, hp, ht⟩ := he.run
  obtain ⟨u, hq, hu⟩ := hl.run
  obtain ⟨w, hr, hw⟩ := hh.run
  refine ⟨_, pe_slice sl_list hp hq hr, fun W σ H en zs en' Q hR hf q => ?_⟩
  simp only [fSlL, Option.bind_eq_some_iff] at hf
  obtain ⟨⟨c1, en1⟩, e1, ⟨c2, en2⟩, e2, ⟨c3, en3⟩, e3, x, e4, hf⟩ := hf
  refine ht W σ H en c1 en1 _ hR e1 fun v W1 H1 x1 R1 v1 => hu W1 σ H1 en1 c2 en2 _ R1 e2 fun W2 H2 x2 R2' => hw W2 σ H2 en2 c3 en3 _ R2' e3 fun W3 H3 x3 R3 => ?_
  simp only at hf
  split at hf
  · rename_i xs
    cases hf
    obtain ⟨a, ws, rfl, h1, h2⟩ := (R3.res ((v1.mono x2.F).mono x3.F) e4).list R3.subF
    exact ⟨a, ws, rfl, h1, fun p hp => q p _ _ _ ((x1.trans x2).trans x3) (R3.laid _ hp) upd_same (cut_dqa _ _ h2) (R3.freshF hp) (R3.freshG hp) (R3.unowned hp)⟩
  · cases hf
def rSlAll (K : PySem.W.Frag) : V → Option Int → Option Int → Hp → VK → Prop := fun x lo hi H Q => (rSlA K x lo hi H Q ∨ rSlL K x lo hi H Q) ∨ rSlS x lo hi H Q
theorem se_slice {e : Expr} {lo hi : Option Expr} {f : EF} {g h : OF} {p2 pos : Pos} (he : SE X e f) (hl : SO X lo g) (hh : SO X hi h) : SE X (.Subscript e (.Slice lo hi none p2) pos) (fSl f g h) := by
  obtain ⟨t, hp, ht⟩ := he.run
  obtain ⟨u, hq, hu⟩ := hl.run
  obtain ⟨w, hr, hw⟩ := hh.run
  refine ⟨_, pe_slice (r := rSlAll X.K) ((sl_tupA.or sl_list).or sl_str) hp hq hr, fun W σ H en r en' Q hR hf q => ?_⟩
  simp only [fSl, Option.bind_eq_some_iff] at hf
  obtain ⟨⟨c1, en1⟩, e1, ⟨c2, en2⟩, e2, ⟨c3, en3⟩, e3, x, e4, hf⟩ := hf
  refine ht W σ H en c1 en1 _ hR e1 fun v W1 H1 x1 R1 v1 => hu W1 σ H1 en1 c2 en2 _ R1 e2 fun W2 H2 x2 R2' => hw W2 σ H2 en2 c3 en3 _ R2' e3 fun W3 H3 x3 R3 => ?_
  have x13 := (x1.trans x2).trans x3
  have dx := R3.res ((v1.mono x2.F).mono x3.F) e4
  simp only at hf
  split at hf
  · rename_i xs
    cases hf
    obtain ⟨k1, k2⟩ := two_ends x13 R3 q
    obtain ⟨a, ws, rfl, h1, h2⟩ := dx.tuple R3.subF
    refine .inl (.inl ⟨a, ws, rfl, h1, fun hw => k1 _ ?_, fun hw p hp => k2 p _ hp (tup_new R3.subF hp (cut_dqa _ _ h2))⟩)
    rw [dpa_length h2] at hw
    rw [cut_whole hw]
    exact dx.oldT
  · rename_i xs
    cases hf
    obtain ⟨k1, k2⟩ := two_ends x13 R3 q
    obtain ⟨a, ws, rfl, h1, h2⟩ := dx.list R3.subF
    exact .inl (.inr ⟨a, ws, rfl, h1, fun p hp => k2 p _ hp (lst_new R3.subF hp (cut_dqa _ _ h2))⟩)
  · rename_i z
    split at hf
    · rename_i hz
      cases hf
      exact .inr ⟨z, dx.str, hz, q _ W3 H3 x13 R3 (.str _)⟩
    · cases hf
  · cases hf

/-! xs * k, xs new -/
def fRep (f : LF) (g : EF) : LF := fun en => (f en).bind fun p => (g p.2).bind fun q => match q.1 with
  | .d (.int k) => if -(2 ^ 63) ≤ k ∧ k < 2 ^ 63 ∧ p.1.length * k.toNat ≤ sizeLine then some ((List.replicate k.toNat p.1).flatten, q.2) else none
  | _ => none
theorem dqa_rep {K : PySem.W.Frag} {F : Hp} {vs : List V} {xs : List PyData} (h : DqAll K F vs xs) : ∀ n, DqAll K F (List.replicate n vs).flatten (List.replicate n xs).flatten
  | 0 => .nil
  | n + 1 => by
    rw [List.replicate_succ, List.replicate_succ, List.flatten_cons, List.flatten_cons]
    exact dpa_app h (dqa_rep h n)
theorem sl_rep {a b : Expr} {f : LF} {g : EF} {pos : Pos} (ha : SL X a f) (hb : SE X b g) : SL X (.BinOp a .Mult b pos) (fRep f g) := by
  obtain ⟨t, hp, ht⟩ := ha.run
  obtain ⟨u, hq, hu⟩ := hb.run
  refine ⟨_, pe_op op_rep hp hq, fun W σ H en zs en' Q hR hf q => ?_⟩
  simp only [fRep, Option.bind_eq_some_iff] at hf
  obtain ⟨⟨xs, en1⟩, e1, ⟨c, en2⟩, e2, hf⟩ := hf
  refine ht W σ H en xs en1 _ hR e1 fun l vs W1 H1 x1 R1 h1 h2 h3 h4 h5 => ?_
  have R1' := R1.keep h1 h3 h4 h5
  refine hu _ σ H1 en1 c en2 _ R1' e2 fun v W2 H2 x2 R2' v2 => ?_
  have x12 := (x1.trans (ext_new R1 (.lst vs) h3)).trans x2
  have hl : H2 l = some (.lst vs) := R2'.subF _ _ (x2.F _ _ upd_same)
  have hv := dpa_mono x2.F _ _ (dpa_mono (same_new h3) _ _ h2)
  simp only at hf
  split at hf
  · rename_i k
    split at hf
    · rename_i hz
      cases hf
      have v2' : Dq X.K W2.F v (.int k) := v2
      cases v2'
      refine ⟨l, k, vs, rfl, rfl, hl, hz.1, hz.2.1, by rw [dpa_length hv]; exact hz.2.2, fun p hp => ?_⟩
      exact q p _ _ _ x12 (R2'.laid _ hp) upd_same (dqa_rep hv _) (R2'.freshF hp) (R2'.freshG hp) (R2'.unowned hp)
    · cases hf
  · cases hf
/-! xs + ys, a new list -/
def fCat (f g : EF) : LF := fun en => (f en).bind fun p => (g p.2).bind fun q => (res q.2 p.1).bind fun x => (res q.2 q.1).bind fun y => match x, y with
  | .list xs, .list ys => if xs.length + ys.length ≤ sizeLine then some (xs ++ ys, q.2) else none
  | _, _ => none
theorem sl_cat {a b : Expr} {f g : EF} {pos : Pos} (ha : SE X a f) (hb : SE X b g) : SL X (.BinOp a .Add b pos) (fCat f g) := by
  obtain ⟨t, hp, ht⟩ := ha.run
  obtain ⟨u, hq, hu⟩ := hb.run
  refine ⟨_, pe_op op_catR hp hq, fun W σ H en zs en' Q hR hf q => ?_⟩
  simp only [fCat, Option.bind_eq_some_iff] at hf
  obtain ⟨⟨c1, en1⟩, e1, ⟨c2, en2⟩, e2, x, e3, y, e4, hf⟩ := hf
  refine ht W σ H en c1 en1 _ hR e1 fun v W1 H1 x1 R1 v1 => hu _ σ H1 en1 c2 en2 _ R1 e2 fun w W2 H2 x2 R2' v2 => ?_
  have dx := R2'.res (v1.mono x2.F) e3
  have dy := R2'.res v2 e4
  split at hf
  · split at hf
    · rename_i hz
      cases hf
      obtain ⟨a, vs, rfl, h1, h2⟩ := dx.list R2'.subF
      obtain ⟨b, ws, rfl, h3, h4⟩ := dy.list R2'.subF
      refine ⟨a, b, vs, ws, rfl, rfl, h1, h3, by rw [dpa_length h2, dpa_length h4]; exact hz, fun p hp => ?_⟩
      exact q p _ _ _ (x1.trans x2) (R2'.laid _ hp) upd_same (dpa_app h2 h4) (R2'.freshF hp) (R2'.freshG hp) (R2'.unowned hp)
    · cases hf
  · cases hf
end
end L2.FL
set_option Elab.async false
set_option linter.all false
set_option maxRecDepth 100000
set_option maxHeartbeats 2000000
/-! FL6: targets, statements, loops, comprehensions. -/
namespace L2.FL
open PySem PySem.Spec PyProof.Rows L2

/-! ### targets -/
abbrev GF := PyData → En → Option En
/-- ws: the slots that it sets -/
structure SGt (K : PySem.W.Frag) (t : TG) (f : GF) (ws : List Nat) : Prop where
  go : ∀ (W : Wd) (σ : St) (H : Hp) (en : En) (v : V) (x : PyData) (en' : En) (Q : St → Hp → Prop), R K W σ H en → Dq K W.F v x → f x en = some en' →
    (∀ σ', R K W σ' H en' → σ'.length = σ.length → (∀ j, j ∉ ws → σ'[j]? = σ[j]?) → Q σ' H) → t v σ H Q
structure SG (X : Cx) (tg : Expr) (f : GF) (ws : List Nat) : Prop where
  run : ∃ t, PG X tg t ∧ SGt X.K t f ws
abbrev GsF := List PyData → En → Option En
structure SGst (K : PySem.W.Frag) (t : TGs) (f : GsF) (ws : List Nat) : Prop where
  go : ∀ (W : Wd) (σ : St) (H : Hp) (en : En) (vs : List V) (xs : List PyData) (en' : En) (Q : St → Hp → Prop), R K W σ H en → DqAll K W.F vs xs → f xs en = some en' →
    (∀ σ', R K W σ' H en' → σ'.length = σ.length → (∀ j, j ∉ ws → σ'[j]? = σ[j]?) → Q σ' H) → t vs σ H Q
structure SGs (X : Cx) (ts : List Expr) (f : GsF) (ws : List Nat) : Prop where
  run : ∃ t, PGs X ts t ∧ SGst X.K t f ws
def gSet (i : Nat) : GF := fun x en => if open_ en i then some (en.set i (some (.d x))) else none
def gNil' : GsF := fun xs en => match xs with
  | [] => some en
  | _ => none
def gCons' (f : GF) (g : GsF) : GsF := fun xs en => match xs with
  | x :: r => (f x en).bind fun en1 => g r en1
  | [] => none
def gTup' (f : GsF) : GF := fun x en => match x with
  | .tuple xs => f xs en
  | _ => none
section
variable {X : Cx}
theorem sg_name {i : Nat} {x : Str} {pos : Pos} (hN : X.N.Nodup) (hi : X.N[i]? = some x := by rfl) (hx : Loc X.env.scope x := by first | exact Or.inl rfl | exact Or.inr rfl) (hf : X.fn x = true ∨ X.env.scope.names.lookup x = some .local := by first | exact .inl rfl | exact .inr rfl) : SG X (.Name x pos) (gSet i) [i] := by
  refine ⟨_, pg_name hN hi hx hf, ⟨fun W σ H en v y en' Q hR hd he q => ?_⟩⟩
  unfold gSet at he
  split at he
  · rename_i ho
    cases he
    refine q _ (hR.setD ho hd) (by simp) fun j hj => ?_
    rw [List.getElem?_set_ne (fun e => hj (by simp [e]))]
  · cases he
theorem sgs_nil : SGs X [] gNil' [] := by
  refine ⟨_, pgs_nil, ⟨fun W σ H en vs xs en' Q hR hd he q => ?_⟩⟩
  unfold gNil' at he
  split at he
  · cases he
    cases hd
    exact ⟨rfl, q σ hR rfl fun _ _ => rfl⟩
  · cases he
theorem sgs_cons {e : Expr} {es : List Expr} {f : GF} {g : GsF} {ws us : List Nat} (h : SG X e f ws) (k : SGs X es g us) (hs : (assignEach (e :: es) X.env).map (·.2) = assign e X.env :: (assignEach es X.env).map (·.2) := by rfl) : SGs X (e :: es) (gCons' f g) (ws ++ us) := by
  obtain ⟨t, hp, ht⟩ := h.run
  obtain ⟨u, hq, hu⟩ := k.run
  refine ⟨_, pgs_cons hp hq hs, ⟨fun W σ H en vs xs en' Q hR hd he q => ?_⟩⟩
  cases hd with
  | nil => cases he
  | cons h1 h2 =>
    simp only [gCons', Option.bind_eq_some_iff] at he
    obtain ⟨en1, e1, e2⟩ := he
    refine ⟨_, _, rfl, ht.go W σ H en _ _ en1 _ hR h1 e1 fun σ1 R1 l1 k1 => ?_⟩
    refine hu.go W σ1 H en1 _ _ en' _ R1 h2 e2 fun σ2 R2' l2 k2 => q σ2 R2' (l2.trans l1) fun j hj => ?_
    simp only [List.mem_append, not_or] at hj
    rw [k2 j hj.2, k1 j hj.1]
theorem sg_tup {es : List Expr} {k : Nat} {f : GsF} {ws : List Nat} {n : Nat} {pos : Pos} (hc : X.calm = true) (h : SGs X es f ws) (hn : (assignEach es X.env).length = n := by rfl) (hst : (assignEach es X.env).findIdx? (·.1) = none := by rfl)
    (hl : ∀ xs en en', f xs en = some en' → xs.length = n) : SG X (.Tuple es k pos) (gTup' f) ws := by
  obtain ⟨t, hp, ht⟩ := h.run
  refine ⟨_, pg_tup hc hp hn hst, ⟨fun W σ H en v x en' Q hR hd he q => ?_⟩⟩
  unfold gTup' at he
  split at he
  · rename_i xs
    cases hd with
    | tup h1 h2 =>
      exact ⟨_, _, rfl, same_sqt hR.subF h1, by rw [dpa_length h2]; exact hl _ _ _ he, ht.go W σ H en _ xs en' _ hR h2 he q⟩
  · cases he
theorem len_gNil : ∀ (xs : List PyData) (en en' : En), gNil' xs en = some en' → xs.length = 0 := by
  intro xs en en' h
  unfold gNil' at h
  split at h
  · rfl
  · cases h
theorem len_gCons {f : GF} {g : GsF} {n : Nat} (h : ∀ (xs : List PyData) (en en' : En), g xs en = some en' → xs.length = n) : ∀ (xs : List PyData) (en en' : En), gCons' f g xs en = some en' → xs.length = n + 1 := by
  intro xs en en' e
  cases xs with
  | nil => cases e
  | cons x r =>
    simp only [gCons', Option.bind_eq_some_iff] at e
    obtain ⟨en1, _, e2⟩ := e
    simp [h r en1 en' e2]
end

/-! ### statements -/
inductive Out where
  | nx
  | rt (x : PyData)
  | bk
  | ct
abbrev SF := En → Option (Out × En)
def Fin (K : PySem.W.Frag) (W : Wd) (D : Ends) (o : Out) (σ : St) (H : Hp) : Prop := match o with
  | .nx => D.nx σ H
  | .rt x => ∀ v, Dq K W.F v x → D.rt v H
  | .bk => D.bk σ H
  | .ct => D.ct σ H
def SSt (K : PySem.W.Frag) (t : TS) (f : SF) : Prop := ∀ (W : Wd) (σ : St) (H : Hp) (en : En) (o : Out) (en' : En) (D : Ends), R K W σ H en → f en = some (o, en') →
  (∀ W' σ' H', Ext W W' → R K W' σ' H' en' → Fin K W' D o σ' H') → t D σ H
structure SS (X : Cx) (st : Stmt) (f : SF) : Prop where
  run : ∃ t, PS X st t ∧ SSt X.K t f
structure SSs (X : Cx) (sts : List Stmt) (f : SF) : Prop where
  run : ∃ t, PSs X sts t ∧ SSt X.K t f
def sNil : SF := fun en => some (.nx, en)
def sSeq (f g : SF) : SF := fun en => (f en).bind fun p => match p.1 with
  | .nx => g p.2
  | o => some (o, p.2)
def sIf (c : TF) (f g : SF) : SF := fun en => (c en).bind fun p => if p.1 = true then f p.2 else g p.2
def sRet (f : EF) : SF := fun en => (f en).bind fun p => match p.1 with
  | .d x => some (.rt x, p.2)
  | _ => none
def sRetN : SF := fun en => some (.rt .none, en)
def sDrop (f : EF) : SF := fun en => (f en).bind fun p => some (.nx, p.2)
def sAsg (g : GF) (f : EF) : SF := fun en => (f en).bind fun p => match p.1 with
  | .d x => (g x p.2).bind fun en' => some (.nx, en')
  | _ => none
def sAsgL (i : Nat) (f : LF) : SF := fun en => (f en).bind fun p => if open_ p.2 i then some (.nx, p.2.set i (some (.l p.1))) else none
def sNever : SF := fun _ => none
def sBreak : SF := fun en => some (.bk, en)
def sCont : SF := fun en => some (.ct, en)
def sAug (i : Nat) (o : PyData → PyData → Option PyData) (f : EF) : SF := fun en => match en[i]? with
  | some (some (.d x)) => (f en).bind fun p => (res p.2 p.1).bind fun y => (o x y).bind fun z => if open_ p.2 i then some (.nx, p.2.set i (some (.d z))) else none
  | _ => none
section
variable {X : Cx}
theorem Ext.fin {K : PySem.W.Frag} {A B : Wd} {D : Ends} {o : Out} {σ : St} {H : Hp} (h : Fin K A D o σ H) (e : Same B.F A.F) : Fin K B D o σ H := by
  cases o with
  | nx => exact h
  | rt x => exact fun v hv => h v (dp_mono e _ _ hv)
  | bk => exact h
  | ct => exact h
theorem ss_nil : SSs X [] sNil := ⟨_, pss_nil, fun W σ H en o en' D hR hf q => by cases hf; exact q W σ H (Ext.refl _) hR⟩
theorem sst_seq {K : PySem.W.Frag} {t u : TS} {f g : SF} (h : SSt K t f) (k : SSt K u g) : SSt K (tSeq t u) (sSeq f g) := by
  intro W σ H en o en' D hR hf q
  simp only [sSeq, Option.bind_eq_some_iff] at hf
  obtain ⟨⟨o1, en1⟩, e1, hf⟩ := hf
  refine h W σ H en o1 en1 _ hR e1 fun W1 σ1 H1 x1 R1 => ?_
  cases o1 with
  | nx => exact k W1 σ1 H1 en1 o en' D R1 hf fun W2 σ2 H2 x2 R2' => q W2 σ2 H2 (x1.trans x2) R2'
  | rt x => cases hf; exact q W1 σ1 H1 x1 R1
  | bk => cases hf; exact q W1 σ1 H1 x1 R1
  | ct => cases hf; exact q W1 σ1 H1 x1 R1
theorem ss_cons {st : Stmt} {rest : List Stmt} {f g : SF} (h : SS X st f) (k : SSs X rest g) : SSs X (st :: rest) (sSeq f g) := by
  obtain ⟨t, hp, ht⟩ := h.run
  obtain ⟨u, hq, hu⟩ := k.run
  exact ⟨_, pss_cons hp hq, sst_seq ht hu⟩
theorem ss_one {st : Stmt} {f : SF} (h : SS X st f) : SSs X [st] f := by
  obtain ⟨t, hp, ht⟩ := h.run
  exact ⟨_, pss_one hp, ht⟩
theorem ss_if {c : Expr} {a b : List Stmt} {f : TF} {g h : SF} {pos : Pos} (hc : ST X c f) (ha : SSs X a g) (hb : SSs X b h) : SS X (.If c a b pos) (sIf f g h) := by
  obtain ⟨t, hp, ht⟩ := hc.run
  obtain ⟨u, hq, hu⟩ := ha.run
  obtain ⟨w, hr, hw⟩ := hb.run
  refine ⟨_, ps_if hp hq hr, fun W σ H en o en' D hR hf q => ?_⟩
  simp only [sIf, Option.bind_eq_some_iff] at hf
  obtain ⟨⟨d, en1⟩, e1, hf⟩ := hf
  refine ht W σ H en d en1 _ hR e1 fun W1 H1 x1 R1 => ?_
  cases d with
  | true =>
    simp only [if_pos] at hf ⊢
    exact hu W1 σ H1 en1 o en' D R1 hf fun W2 σ2 H2 x2 R2' => q W2 σ2 H2 (x1.trans x2) R2'
  | false =>
    simp only [Bool.false_eq_true, if_false] at hf ⊢
    exact hw W1 σ H1 en1 o en' D R1 hf fun W2 σ2 H2 x2 R2' => q W2 σ2 H2 (x1.trans x2) R2'
theorem ss_ret {e : Expr} {f : EF} {pos : Pos} (h : SE X e f) : SS X (.Return (some e) pos) (sRet f) := by
  obtain ⟨t, hp, ht⟩ := h.run
  refine ⟨_, ps_ret hp, fun W σ H en o en' D hR hf q => ?_⟩
  simp only [sRet, Option.bind_eq_some_iff] at hf
  obtain ⟨⟨c, en1⟩, e1, hf⟩ := hf
  refine ht W σ H en c en1 _ hR e1 fun v W1 H1 x1 R1 v1 => ?_
  simp only at hf
  split at hf
  · cases hf
    exact q W1 σ H1 x1 R1 v v1
  · cases hf
theorem ss_retN {pos : Pos} : SS X (.Return none pos) sRetN := ⟨_, ps_retN, fun W σ H en o en' D hR hf q => by cases hf; exact q W σ H (Ext.refl _) hR _ .non⟩
theorem ss_pass {pos : Pos} : SS X (.Pass pos) sNil := ⟨_, ps_pass, fun W σ H en o en' D hR hf q => by cases hf; exact q W σ H (Ext.refl _) hR⟩
theorem ss_break {pos : Pos} : SS X (.Break pos) sBreak := ⟨_, ps_break, fun W σ H en o en' D hR hf q => by cases hf; exact q W σ H (Ext.refl _) hR⟩
theorem ss_cont {pos : Pos} : SS X (.Continue pos) sCont := ⟨_, ps_continue, fun W σ H en o en' D hR hf q => by cases hf; exact q W σ H (Ext.refl _) hR⟩
theorem ss_never {st : Stmt} : SS X st sNever := ⟨_, ps_never, fun W σ H en o en' D hR hf q => by cases hf⟩
theorem sss_never {sts : List Stmt} : SSs X sts sNever := ⟨_, pss_never, fun W σ H en o en' D hR hf q => by cases hf⟩
theorem ss_expr {e : Expr} {f : EF} {pos : Pos} (h : SE X e f) (hs : swapsWith e none pos.line X.env = pure false := by rfl) : SS X (.Expr e pos) (sDrop f) := by
  obtain ⟨t, hp, ht⟩ := h.run
  refine ⟨_, ps_expr hp hs, fun W σ H en o en' D hR hf q => ?_⟩
  simp only [sDrop, Option.bind_eq_some_iff] at hf
  obtain ⟨⟨c, en1⟩, e1, hf⟩ := hf
  cases hf
  exact ht W σ H en c _ _ hR e1 fun v W1 H1 x1 R1 v1 => q W1 σ H1 x1 R1
theorem sst_asg {K : PySem.W.Frag} {t : TE} {u : TG} {f : EF} {g : GF} {ws : List Nat} (ht : SEt K t f) (hu : SGt K u g ws) : SSt K (tAsg t u) (sAsg g f) := by
  intro W σ H en o en' D hR hf q
  simp only [sAsg, Option.bind_eq_some_iff] at hf
  obtain ⟨⟨c, en1⟩, e1, hf⟩ := hf
  refine ht W σ H en c en1 _ hR e1 fun v W1 H1 x1 R1 v1 => ?_
  simp only at hf
  split at hf
  · simp only [Option.bind_eq_some_iff] at hf
    obtain ⟨en2, e2, hf⟩ := hf
    cases hf
    exact hu.go W1 σ H1 en1 v _ _ _ R1 v1 e2 fun σ' R2' _ _ => q W1 σ' H1 x1 R2'
  · cases hf
theorem ss_asg {tg e : Expr} {f : EF} {g : GF} {ws : List Nat} {pos : Pos} (he : SE X e f) (hg : SG X tg g ws) (hs : swapsWithSole [tg] e pos.line X.env = pure false := by rfl) (hw : swappedStores [tg] e X.env = pure none := by rfl)
    (h1 : (assignEach [tg] X.env).map (·.2) = [assign tg X.env] := by rfl) : SS X (.Assign [tg] e pos) (sAsg g f) := by
  obtain ⟨t, hp, ht⟩ := he.run
  obtain ⟨u, hq, hu⟩ := hg.run
  exact ⟨_, ps_asg hp hq hs hw h1, sst_asg ht hu⟩
theorem sgt_name {K : PySem.W.Frag} {i : Nat} : SGt K (gName i) (gSet i) [i] := ⟨fun W σ H en v y en' Q hR hd he q => by
  unfold gSet at he
  split at he
  · rename_i ho
    cases he
    refine q _ (hR.setD ho hd) (by simp) fun j hj => ?_
    rw [List.getElem?_set_ne (fun e => hj (by simp [e]))]
  · cases he⟩
theorem ss_set {i : Nat} {x : Str} {e : Expr} {f : EF} {pos' pos : Pos} (hN : X.N.Nodup) (he : SE X e f) (hi : X.N[i]? = some x := by rfl) (hx : Loc X.env.scope x := by first | exact Or.inl rfl | exact Or.inr rfl) (hs : swapsWith e (some (.Name x pos')) pos.line X.env = pure false := by rfl)
    (hf : X.fn x = true ∨ X.env.scope.names.lookup x = some .local := by first | exact .inl rfl | exact .inr rfl) : SS X (.Assign [.Name x pos'] e pos) (sAsg (gSet i) f) := by
  obtain ⟨t, hp, ht⟩ := he.run
  exact ⟨_, ps_set hN hi hx hp hs hf, sst_asg ht sgt_name⟩
theorem sst_asgL {K : PySem.W.Frag} {t : TE} {f : LF} {i : Nat} (ht : SLt K t f) : SSt K (tAsg t (gName i)) (sAsgL i f) := by
  intro W σ H en o en' D hR hf q
  simp only [sAsgL, Option.bind_eq_some_iff] at hf
  obtain ⟨⟨xs, en1⟩, e1, hf⟩ := hf
  refine ht W σ H en xs en1 _ hR e1 fun a vs W1 H1 x1 R1 h1 h2 h3 h4 h5 => ?_
  simp only at hf
  split at hf
  · rename_i ho
    cases hf
    exact q W1 _ H1 x1 (R1.setL ho h1 h2 h3 h4 h5)
  · cases hf
/-- x = a new list that may still change -/
theorem ss_setL {i : Nat} {x : Str} {e : Expr} {f : LF} {pos' pos : Pos} (hN : X.N.Nodup) (he : SL X e f) (hi : X.N[i]? = some x := by rfl) (hx : Loc X.env.scope x := by first | exact Or.inl rfl | exact Or.inr rfl) (hs : swapsWith e (some (.Name x pos')) pos.line X.env = pure false := by rfl)
    (hf : X.fn x = true ∨ X.env.scope.names.lookup x = some .local := by first | exact .inl rfl | exact .inr rfl) : SS X (.Assign [.Name x pos'] e pos) (sAsgL i f) := by
  obtain ⟨t, hp, ht⟩ := he.run
  exact ⟨_, ps_set hN hi hx hp hs hf, sst_asgL ht⟩
/-- x op= e -/
def SIp (K : PySem.W.Frag) (r : TIp) (o : PyData → PyData → Option PyData) : Prop := S2 K r o
theorem ss_aug {i : Nat} {x : Str} {e : Expr} {f : EF} {op : Operator} {r : TIp} {o : PyData → PyData → Option PyData} {pos' pos : Pos} (hN : X.N.Nodup) (he : SE X e f) (ho : PIp X op r) (s : S2 X.K r o) (hi : X.N[i]? = some x := by rfl) (hx : Loc X.env.scope x := by first | exact Or.inl rfl | exact Or.inr rfl)
    (hf : X.fn x = true ∨ X.env.scope.names.lookup x = some .local := by first | exact .inl rfl | exact .inr rfl) : SS X (.AugAssign (.Name x pos') op e pos) (sAug i o f) := by
  obtain ⟨t, hp, ht⟩ := he.run
  refine ⟨_, ps_aug hN hi hx hp ho hf, fun W σ H en out en' D hR hfn q => ?_⟩
  unfold sAug at hfn
  split at hfn
  · rename_i y ey
    simp only [Option.bind_eq_some_iff] at hfn
    obtain ⟨⟨c, en1⟩, e1, y2, e2, z, e3, hfn⟩ := hfn
    obtain ⟨v, hv, hd⟩ := hR.dat i y ey
    refine ⟨v, hv, ht W σ H en c en1 _ hR e1 fun w W1 H1 x1 R1 w1 => ?_⟩
    simp only at hfn
    split at hfn
    · rename_i hop
      cases hfn
      refine s W1.F H1 v w y y2 z _ R1.subF (.old (dp_mono x1.F _ _ hd)) (R1.res w1 e2) e3 (fun u hu => ?_) (fun p h hp' hu => ?_)
      · exact q W1 _ H1 x1 (R1.setD hop hu)
      · exact q _ _ _ (x1.trans (ext_new R1 h (R1.freshF hp'))) ((R1.alloc h hp').setD hop hu)
    · cases hfn
  · cases hfn
end
theorem pip_of {X : Cx} {op : Operator} {r : R2} (h : OpR X (inplaceOp op) r) : PIp X op r := fun pins s σ H x y v u Q I r1 r2 hh => h pins s σ H x y v u Q I r1 r2 hh
end L2.FL
set_option Elab.async false
set_option linter.all false
set_option maxRecDepth 100000
set_option maxHeartbeats 2000000
/-! FL7: what is walked; for, while; comprehensions; lists that change. -/
namespace L2.FL
open PySem PySem.Spec PyProof.Rows L2

/-! ### what is walked -/
structure WalkD (K : PySem.W.Frag) (J : It) (F0 : Hp) (xs : List PyData) : Prop where
  stop : ∀ (W : Wd) (σ : St) (H : Hp) (en : En), Same F0 W.F → R K W σ H en → J.stop xs.length H
  go : ∀ (i : Nat) (x : PyData), xs[i]? = some x → ∀ (W : Wd) (σ : St) (H : Hp) (en : En), Same F0 W.F → R K W σ H en → J.go i H ∧ ∀ v H', J.yld i H v H' → ∃ W', Ext W W' ∧ R K W' σ H' en ∧ Dq K W'.F v x
theorem WalkD.mono {K : PySem.W.Frag} {J : It} {F0 F1 : Hp} {xs : List PyData} (w : WalkD K J F0 xs) (s : Same F0 F1) : WalkD K J F1 xs :=
  ⟨fun W σ H en h r => w.stop W σ H en (s.trans h) r, fun i x e W σ H en h r => w.go i x e W σ H en (s.trans h) r⟩
abbrev IF := En → Option (List PyData × En)
def SIt (K : PySem.W.Frag) (t : TI) (f : IF) : Prop := ∀ (W : Wd) (σ : St) (H : Hp) (en : En) (xs : List PyData) (en' : En) (Q : It → Hp → Prop), R K W σ H en → f en = some (xs, en') →
  (∀ J W' H', Ext W W' → R K W' σ H' en' → WalkD K J W'.F xs → Q J H') → t σ H Q
structure SI (X : Cx) (tg iter : Expr) (f : IF) : Prop where
  run : ∃ t, PI X tg iter t ∧ SIt X.K t f
section
variable {X : Cx} {tg : Expr}
theorem pi_or {iter : Expr} {t u : TI} (h : PI X tg iter t) (k : PI X tg iter u) : PI X tg iter (fun σ H Q => t σ H Q ∨ u σ H Q) := by
  refine ⟨fun pins s σ H Q I q => ?_⟩
  rcases q with q | q
  · exact h.run pins s σ H Q I q
  · exact k.run pins s σ H Q I q
theorem walk_list {K : PySem.W.Frag} {F : Hp} {a : Addr} {vs : List V} {xs : List PyData} (h : SqL K F a vs) (hd : DqAll K F vs xs) : WalkD K (Itl K a) F xs := by
  have rd : ∀ (W : Wd) (σ : St) (H : Hp) (en : En), Same F W.F → R K W σ H en → SqL K H a vs := fun W σ H en s r => same_rd (s.trans r.subF) h
  refine ⟨fun W σ H en s r => ⟨vs, rd W σ H en s r, by rw [dpa_length hd]; exact Nat.le_refl _⟩, fun i x e W σ H en s r => ?_⟩
  obtain ⟨v, e1, e2⟩ := dpa_get hd e
  refine ⟨⟨vs, v, rd W σ H en s r, e1⟩, fun u H' y => ?_⟩
  obtain ⟨rfl, y⟩ := y
  have e3 := y vs ((rd W σ _ en s r))
  rw [e1] at e3
  cases e3
  exact ⟨W, Ext.refl _, r, dp_mono s _ _ e2⟩
theorem walk_tup {K : PySem.W.Frag} {F : Hp} {a : Addr} {vs : List V} {xs : List PyData} (h : SqT K F a vs) (hd : DqAll K F vs xs) : WalkD K (Itt K a) F xs := by
  have rd : ∀ (W : Wd) (σ : St) (H : Hp) (en : En), Same F W.F → R K W σ H en → SqT K H a vs := fun W σ H en s r => same_sqt (s.trans r.subF) h
  refine ⟨fun W σ H en s r => ⟨vs, rd W σ H en s r, by rw [dpa_length hd]; exact Nat.le_refl _⟩, fun i x e W σ H en s r => ?_⟩
  obtain ⟨v, e1, e2⟩ := dpa_get hd e
  refine ⟨⟨vs, v, rd W σ H en s r, e1⟩, fun u H' y => ?_⟩
  obtain ⟨rfl, y⟩ := y
  have e3 := y vs (rd W σ _ en s r)
  rw [e1] at e3
  cases e3
  exact ⟨W, Ext.refl _, r, dp_mono s _ _ e2⟩
/-- the signs of a text -/
def signs (z : Str) : List PyData := z.cps.toList.map fun c => .str ⟨#[c]⟩
theorem walk_str {K : PySem.W.Frag} {F : Hp} (z : Str) : WalkD K (Its z) F (signs z) := by
  refine ⟨fun W σ H en s r => ?_, fun i x e W σ H en s r => ?_⟩
  · show z.cps.size ≤ (signs z).length
    simp [signs]
  · have hi : i < z.cps.size := by
      have := (List.getElem?_eq_some_iff.mp e).1
      simpa [signs] using this
    refine ⟨hi, fun u H' y => ?_⟩
    obtain ⟨rfl, c, ec, rfl⟩ := y
    have e' : x = .str ⟨#[c]⟩ := by
      unfold signs at e
      rw [List.getElem?_map, Array.getElem?_toList, ec] at e
      cases e
      rfl
    subst e'
    exact ⟨W, Ext.refl _, r, .str _⟩
def itSeq : PyData → Option (List PyData)
  | .list xs => some xs
  | .tuple xs => some xs
  | .str z => some (signs z)
  | _ => none
/-- a list, a tuple, a text, as data -/
def fSeq (f : EF) : IF := fun en => (f en).bind fun p => match p.1 with
  | .d x => (itSeq x).bind fun xs => some (xs, p.2)
  | _ => none
theorem si_seq {e : Expr} {f : EF} (h : SE X e f) : SI X tg e (fSeq f) := by
  obtain ⟨t, hp, ht⟩ := h.run
  refine ⟨_, pi_or (pi_or (pi_list hp) (pi_tup hp)) (pi_str hp), fun W σ H en xs en' Q hR hf q => ?_⟩
  simp only [fSeq, Option.bind_eq_some_iff] at hf
  obtain ⟨⟨c, en1⟩, e1, hf⟩ := hf
  simp only at hf
  split at hf
  · rename_i x
    simp only [Option.bind_eq_some_iff] at hf
    obtain ⟨ys, e2, hf⟩ := hf
    cases hf
    cases x with
    | list xs =>
      cases e2
      refine .inl (.inl (ht W σ H en _ _ _ hR e1 fun v W1 H1 x1 R1 v1 => ?_))
      have v1' : Dq X.K W1.F v (.list xs) := v1
      cases v1' with
      | lst h1 h2 => exact ⟨_, rfl, ⟨_, same_rd R1.subF h1⟩, q _ W1 H1 x1 R1 (walk_list h1 h2)⟩
    | tuple xs =>
      cases e2
      refine .inl (.inr (ht W σ H en _ _ _ hR e1 fun v W1 H1 x1 R1 v1 => ?_))
      have v1' : Dq X.K W1.F v (.tuple xs) := v1
      cases v1' with
      | tup h1 h2 => exact ⟨_, rfl, ⟨_, same_sqt R1.subF h1⟩, q _ W1 H1 x1 R1 (walk_tup h1 h2)⟩
    | str z =>
      cases e2
      refine .inr (ht W σ H en _ _ _ hR e1 fun v W1 H1 x1 R1 v1 => ?_)
      have v1' : Dq X.K W1.F v (.str z) := v1
      cases v1'
      exact ⟨z, rfl, q _ W1 H1 x1 R1 (walk_str z)⟩
    | none => cases e2
    | bool b => cases e2
    | int i => cases e2
    | dict kvs => cases e2
  · cases hf
/-! ranges -/
def rngL (lo : Int) (n : Nat) : List PyData := (List.range n).map fun (i : Nat) => .int (lo + (i : Int))
theorem walk_rng {K : PySem.W.Frag} {F : Hp} (lo : Int) (n : Nat) : WalkD K (Itr lo n) F (rngL lo n) := by
  refine ⟨fun W σ H en s r => ?_, fun i x e W σ H en s r => ?_⟩
  · show n ≤ (rngL lo n).length
    simp [rngL]
  · have hi : i < n := by
      have := (List.getElem?_eq_some_iff.mp e).1
      simpa [rngL] using this
    refine ⟨hi, fun u H' y => ?_⟩
    obtain ⟨rfl, rfl⟩ := y
    have e' : x = .int (lo + i) := by
      unfold rngL at e
      rw [List.getElem?_map, List.getElem?_range hi] at e
      cases e
      rfl
    subst e'
    exact ⟨W, Ext.refl _, r, .int _⟩
def asInt : RV → Option Int
  | .d (.int i) => some i
  | _ => none
/-- a number that a range may have as its end (decided by choice: the kernel is never to reckon it) -/
def RngOk (n : Int) : Prop := -4611686018427387904 ≤ n ∧ n < 4611686018427387904
noncomputable instance {n : Int} : Decidable (RngOk n) := Classical.propDecidable _
noncomputable def fRng1 (f : EF) : IF := fun en => (f en).bind fun p => (asInt p.1).bind fun n => if RngOk n then some (rngL 0 n.toNat, p.2) else none
noncomputable def fRng2 (f g : EF) : IF := fun en => (f en).bind fun p => (asInt p.1).bind fun a => (g p.2).bind fun q => (asInt q.1).bind fun b =>
  if RngOk a ∧ RngOk b then some (rngL a (b - a).toNat, q.2) else none
/-- downward by ones -/
def rngDown (hi : Int) (n : Nat) : List PyData := (List.range n).map fun (i : Nat) => .int (hi + (i : Int) * (-1))
theorem asInt_eq {r : RV} {i : Int} (h : asInt r = some i) : r = .d (.int i) := by
  unfold asInt at h
  split at h
  · cases h; rfl
  · cases h
theorem rint {K : PySem.W.Frag} {F : Hp} {σ : St} {v : V} {i : Int} (h : RVal K F σ v (.d (.int i))) : v = .int i := by
  have h' : Dq K F v (.int i) := h
  cases h'; rfl
theorem si_range1 {a : Expr} {f : EF} {p pos : Pos} (hg : Gl X "range") (hm : X.mg "range" = none) (ha : SE X a f) (hs : starEach [a] X.env = [(false, eval a X.env)] := by rfl) (hs' : starEach [a] X.env = (false, eval a X.env) :: starEach [] X.env := by rfl) :
    SI X tg (.Call (.Name "range" p) [a] [] pos) (fRng1 f) := by
  obtain ⟨t, hp, ht⟩ := ha.run
  refine ⟨_, pi_range1 hg hm (pa_cons hp pa_nil hs') hs, fun W σ H en xs en' Q hR hf q => ?_⟩
  simp only [fRng1, Option.bind_eq_some_iff] at hf
  obtain ⟨⟨c, en1⟩, e1, n, e2, hf⟩ := hf
  cases asInt_eq e2
  split at hf
  · rename_i hn
    cases hf
    refine ht W σ H en _ _ _ hR e1 fun v W1 H1 x1 R1 v1 => ?_
    cases rint v1
    unfold RngOk at hn
    exact ⟨n, rfl, by omega, by omega, q _ W1 H1 x1 R1 (walk_rng 0 n.toNat)⟩
  · cases hf
theorem si_range2 {a b : Expr} {f g : EF} {p pos : Pos} (hg : Gl X "range") (hm : X.mg "range" = none) (ha : SE X a f) (hb : SE X b g) (hs : starEach [a, b] X.env = [(false, eval a X.env), (false, eval b X.env)] := by rfl) (hs2 : starEach [b] X.env = [(false, eval b X.env)] := by rfl)
    (hs' : starEach [a, b] X.env = (false, eval a X.env) :: starEach [b] X.env := by rfl) (hs2' : starEach [b] X.env = (false, eval b X.env) :: starEach [] X.env := by rfl) : SI X tg (.Call (.Name "range" p) [a, b] [] pos) (fRng2 f g) := by
  obtain ⟨t, hp, ht⟩ := ha.run
  obtain ⟨u, hq, hu⟩ := hb.run
  refine ⟨_, pi_range2 hg hm (pa_cons hp (pa_cons hq pa_nil hs2') hs') hs hs2, fun W σ H en xs en' Q hR hf q => ?_⟩
  simp only [fRng2, Option.bind_eq_some_iff] at hf
  obtain ⟨⟨c, en1⟩, e1, n, e2, ⟨c2, en2⟩, e3, m, e4, hf⟩ := hf
  cases asInt_eq e2
  cases asInt_eq e4
  split at hf
  · rename_i hn
    cases hf
    refine ht W σ H en _ _ _ hR e1 fun v W1 H1 x1 R1 v1 => ?_
    cases rint v1
    refine hu W1 σ H1 _ _ _ _ R1 e3 fun w W2 H2 x2 R2' w2 => ?_
    cases rint w2
    unfold RngOk at hn
    exact ⟨n, m, rfl, ⟨by omega, by omega, by omega, by omega⟩, q _ W2 H2 (x1.trans x2) R2' (walk_rng n (m - n).toNat)⟩
  · cases hf

/-! ### for -/
def forL (g : GF) (b : SF) : List PyData → SF
  | [], en => some (.nx, en)
  | x :: xs, en => (g x en).bind fun en1 => (b en1).bind fun p => match p.1 with
    | .nx => forL g b xs p.2
    | .ct => forL g b xs p.2
    | .bk => some (.nx, p.2)
    | .rt y => some (.rt y, p.2)
def sFor (it : IF) (g : GF) (b : SF) : SF := fun en => (it en).bind fun p => forL g b p.1 p.2
theorem sst_for {K : PySem.W.Frag} {wi : TI} {g : TG} {tb : TS} {it : IF} {gf : GF} {b : SF} {ws : List Nat} (hi : SIt K wi it) (hg : SGt K g gf ws) (hb : SSt K tb b) : SSt K (tFor wi g tb) (sFor it gf b) := by
  intro W σ H en o en' D hR hf q
  simp only [sFor, Option.bind_eq_some_iff] at hf
  obtain ⟨⟨xs, en1⟩, e1, hf⟩ := hf
  refine hi W σ H en xs en1 _ hR e1 fun J W1 H1 x1 R1 w => ?_
  refine ⟨fun i m σ' H' => m = xs.length - i ∧ i ≤ xs.length ∧ ∃ W2 en2, Ext W1 W2 ∧ R K W2 σ' H' en2 ∧ forL gf b (xs.drop i) en2 = some (o, en'), ⟨xs.length, by simp, Nat.zero_le _, W1, en1, Ext.refl _, R1, by simpa using hf⟩, ?_⟩
  rintro i m σ2 H2 ⟨rfl, hi', W2, en2, x2, R2', hf2⟩
  by_cases hlt : i < xs.length
  · have ex : xs[i]? = some xs[i] := List.getElem?_eq_getElem hlt
    have ed : xs.drop i = xs[i] :: xs.drop (i + 1) := List.drop_eq_getElem_cons hlt
    rw [ed, forL] at hf2
    simp only [Option.bind_eq_some_iff] at hf2
    obtain ⟨en3, e3, ⟨o4, en4⟩, e4, hf2⟩ := hf2
    obtain ⟨hgo, hy⟩ := w.go i _ ex W2 σ2 H2 en2 x2.F R2'
    refine .inr ⟨hgo, fun σ' H' => ∃ W5 en5, Ext W1 W5 ∧ R K W5 σ' H' en5 ∧ forL gf b (xs.drop (i + 1)) en5 = some (o, en'), fun σ' H' ⟨W5, en5, a1, a2, a3⟩ => ⟨xs.length - (i + 1), by omega, rfl, hlt, W5, en5, a1, a2, a3⟩, fun v H' y => ?_⟩
    obtain ⟨W3, x3, R3, hd⟩ := hy v H' y
    refine hg.go W3 σ2 H' en2 v _ en3 _ R3 hd e3 fun σ3 R4 _ _ => ?_
    refine hb W3 σ3 H' en3 o4 en4 _ R4 e4 fun W5 σ5 H5 x5 R5 => ?_
    have x15 := (x2.trans x3).trans x5
    cases o4 with
    | nx => exact ⟨W5, en4, x15, R5, hf2⟩
    | ct => exact ⟨W5, en4, x15, R5, hf2⟩
    | bk =>
      simp only [Option.some.injEq, Prod.mk.injEq] at hf2
      obtain ⟨rfl, rfl⟩ := hf2
      exact q W5 σ5 H5 (x1.trans x15) R5
    | rt y =>
      simp only [Option.some.injEq, Prod.mk.injEq] at hf2
      obtain ⟨rfl, rfl⟩ := hf2
      exact q W5 σ5 H5 (x1.trans x15) R5
  · have ei : i = xs.length := by omega
    subst ei
    rw [List.drop_length, forL] at hf2
    simp only [Option.some.injEq, Prod.mk.injEq] at hf2
    obtain ⟨rfl, rfl⟩ := hf2
    exact .inl ⟨w.stop W2 σ2 H2 en2 x2.F R2', q W2 σ2 H2 (x1.trans x2) R2'⟩
theorem ss_for {iter : Expr} {body : List Stmt} {it : IF} {g : GF} {b : SF} {ws : List Nat} {pos : Pos} (hp : PassesOwn (model X.prog X.w) X.A X.env X.xe) (hc : X.calm = true) (hi : SI X tg iter it) (hg : SG X tg g ws) (hb : SSs X body b)
    (hs : ∀ x, foldedSetIterable iter X.env x = pure x := by intro _; rfl) : SS X (.For tg iter body [] pos) (sFor it g b) := by
  obtain ⟨t, h1, h2⟩ := hi.run
  obtain ⟨u, h3, h4⟩ := hg.run
  obtain ⟨w, h5, h6⟩ := hb.run
  exact ⟨_, ps_for hp hc h1 h3 h5 hs, sst_for h2 h4 h6⟩

/-! ### while -/
def whileF (c : TF) (b : SF) : Nat → SF
  | 0, _ => none
  | n + 1, en => (c en).bind fun p => if p.1 = true then (b p.2).bind fun q => match q.1 with
      | .nx => whileF c b n q.2
      | .ct => whileF c b n q.2
      | .bk => some (.nx, q.2)
      | .rt y => some (.rt y, q.2)
    else some (.nx, p.2)
/-- more turns than any loop of ours takes -/
def fuel : Nat := 2 ^ 40
def sWhile (c : TF) (b : SF) : SF := whileF c b fuel
theorem ss_while {c : Expr} {body : List Stmt} {f : TF} {b : SF} {pos : Pos} (hp : PassesOwn (model X.prog X.w) X.A X.env X.xe) (hc : ST X c f) (hb : SSs X body b) : SS X (.While c body [] pos) (sWhile f b) := by
  obtain ⟨t, h1, h2⟩ := hc.run
  obtain ⟨u, h3, h4⟩ := hb.run
  refine ⟨_, ps_while hp h1 h3, fun W σ H en o en' D hR hf q => ?_⟩
  refine ⟨fun m σ' H' => ∃ W1 en1, Ext W W1 ∧ R X.K W1 σ' H' en1 ∧ whileF f b m en1 = some (o, en'), ⟨fuel, W, en, Ext.refl _, hR, hf⟩, ?_⟩
  rintro m σ1 H1 ⟨W1, en1, x1, R1, hf1⟩
  cases m with
  | zero => cases hf1
  | succ n =>
    rw [whileF] at hf1
    simp only [Option.bind_eq_some_iff] at hf1
    obtain ⟨⟨d, en2⟩, e2, hf1⟩ := hf1
    refine h2 W1 σ1 H1 en1 d en2 _ R1 e2 fun W2 H2 x2 R2' => ?_
    cases d with
    | true =>
      rw [if_pos rfl] at hf1 ⊢
      simp only [Option.bind_eq_some_iff] at hf1
      obtain ⟨⟨o3, en3⟩, e3, hf1⟩ := hf1
      refine ⟨fun σ' H' => ∃ W1 en1, Ext W W1 ∧ R X.K W1 σ' H' en1 ∧ whileF f b n en1 = some (o, en'), fun σ' H' h => ⟨n, Nat.lt_succ_self _, h⟩, ?_⟩
      refine h4 W2 σ1 H2 en2 o3 en3 _ R2' e3 fun W3 σ3 H3 x3 R3 => ?_
      have x13 := (x1.trans x2).trans x3
      cases o3 with
      | nx => exact ⟨W3, en3, x13, R3, hf1⟩
      | ct => exact ⟨W3, en3, x13, R3, hf1⟩
      | bk =>
        simp only [Option.some.injEq, Prod.mk.injEq] at hf1
        obtain ⟨rfl, rfl⟩ := hf1
        exact q W3 σ3 H3 x13 R3
      | rt y =>
        simp only [Option.some.injEq, Prod.mk.injEq] at hf1
        obtain ⟨rfl, rfl⟩ := hf1
        exact q W3 σ3 H3 x13 R3
    | false =>
      rw [if_neg Bool.false_ne_true] at hf1 ⊢
      simp only [Option.some.injEq, Prod.mk.injEq] at hf1
      obtain ⟨rfl, rfl⟩ := hf1
      exact q W2 σ1 H2 (x1.trans x2) R2'

/-! ### lists that change -/
def sApp (i : Nat) (f : EF) : SF := fun en => (live en i).bind fun _ => (f en).bind fun p => match p.1 with
  | .d y => (live p.2 i).bind fun xs => if xs.length < sizeLine then some (.nx, putL p.2 i (xs ++ [y])) else none
  | _ => none
theorem dqa_one {K : PySem.W.Frag} {F : Hp} {v : V} {x : PyData} (h : Dq K F v x) : DqAll K F [v] [x] := .cons h .nil
theorem ss_app (i : Nat) {x : Str} {e : Expr} {f : EF} {ap p cp pos : Pos} (he : SE X e f) (hN : X.N[i]? = some x := by rfl) (hv : Vis X.env.scope x := by first | exact Or.inl rfl | exact Or.inr (Or.inl rfl) | exact Or.inr (Or.inr rfl)) (hd : (x == ("__debug__" : Str)) = false := by decide)
    (hcd : (x == ("__classdict__" : Str)) = false := by decide) (hbase : attributeBase (.Name x p) "append" X.env (eval (.Name x p) X.env) = eval (.Name x p) X.env := by rfl)
    (hfew : ((backTo cp (starEach [e] X.env)).all (fun x => !x.1) && (backToKw cp (keywordEach [] X.env)).all (fun x => x.1.isSome) && decide ([e].length + ([] : List Keyword).length + (if ([] : List Keyword).isEmpty then 0 else 1) < 30)) = true := by rfl)
    (hline : (ap.endLine == cp.line) = true := by rfl) (hs : starEach [e] X.env = (false, eval e X.env) :: starEach [] X.env := by rfl) (hpl : (backTo cp (starEach [] X.env)).any (·.1) = false := by rfl)
    (hsw : swapsWith (.Call (.Attribute (.Name x p) "append" ap) [e] [] cp) none pos.line X.env = pure false := by rfl) :
    SS X (.Expr (.Call (.Attribute (.Name x p) "append" ap) [e] [] cp) pos) (sApp i f) := by
  obtain ⟨t, hp, ht⟩ := he.run
  refine ⟨_, ps_expr (pe_bm PySem.F.plainAttrs_list PySem.F.slot_list_append PySem.F.type_list_append mt_append (pe_var hN hv hd hcd) (pa_cons hp pa_nil hs) hbase hfew hline hs hpl) hsw, fun W σ H en o en' D hR hf q => ?_⟩
  simp only [sApp, Option.bind_eq_some_iff] at hf
  obtain ⟨xs0, e0, ⟨c, en1⟩, e1, hf⟩ := hf
  obtain ⟨a, vs0, h1, h2, _⟩ := hR.liv i xs0 e0
  refine ⟨.ref a, h1, .inl ⟨rfl, vs0, SqL.of h2⟩, ht W σ H en c en1 _ hR e1 fun v W1 H1 x1 R1 v1 => ?_⟩
  simp only at hf
  split at hf
  · rename_i y
    simp only [Option.bind_eq_some_iff] at hf
    obtain ⟨xs, e2, hf⟩ := hf
    split at hf
    · rename_i hl
      cases hf
      obtain ⟨a', vs, g1, g2, g3, _⟩ := R1.liv i xs e2
      rw [h1] at g1
      cases g1
      refine ⟨a, vs, v, rfl, rfl, g2, by rw [dpa_length g3]; exact hl, ?_⟩
      exact q W1 σ _ x1 (R1.put e2 h1 (dpa_app g3 (dqa_one v1)))
    · cases hf
  · cases hf
/-! xs[i] = e -/
def sSetIx (i : Nat) (fi fe : EF) : SF := fun en => (fe en).bind fun p => match p.1 with
  | .d y => (live p.2 i).bind fun _ => (fi p.2).bind fun q => (asInt q.1).bind fun k => (live q.2 i).bind fun xs => (ixN xs.length k).bind fun j => some (.nx, putL q.2 i (xs.set j y))
  | _ => none
theorem ss_setIx (i : Nat) {x : Str} {ei e : Expr} {fi fe : EF} {p p2 pos : Pos} (hi : SE X ei fi) (he : SE X e fe) (hN : X.N[i]? = some x := by rfl) (hv : Vis X.env.scope x := by first | exact Or.inl rfl | exact Or.inr (Or.inl rfl) | exact Or.inr (Or.inr rfl)) (hd : (x == ("__debug__" : Str)) = false := by decide)
    (hcd : (x == ("__classdict__" : Str)) = false := by decide) (ha : ∀ v, assign (.Subscript (.Name x p) ei p2) X.env v = (do
      let ov ← holding [v] (eval (.Name x p) X.env)
      let iv ← holding [v, ov] (eval ei X.env)
      standAt p2
      holding [v, ov, iv] (setItem ov iv v)
      release [v, ov, iv] []) := by intro _; rfl) (hs : swapsWithSole [.Subscript (.Name x p) ei p2] e pos.line X.env = pure false := by rfl) (hw : swappedStores [.Subscript (.Name x p) ei p2] e X.env = pure none := by rfl)
    (h1 : (assignEach [.Subscript (.Name x p) ei p2] X.env).map (·.2) = [assign (.Subscript (.Name x p) ei p2) X.env] := by rfl) :
    SS X (.Assign [.Subscript (.Name x p) ei p2] e pos) (sSetIx i fi fe) := by
  obtain ⟨t, hp, ht⟩ := he.run
  obtain ⟨u, hq, hu⟩ := hi.run
  refine ⟨_, ps_asg hp (pg_sub (pe_var hN hv hd hcd) hq set_list ha) hs hw h1, fun W σ H en o en' D hR hf q => ?_⟩
  simp only [sSetIx, Option.bind_eq_some_iff] at hf
  obtain ⟨⟨c, en1⟩, e1, hf⟩ := hf
  refine ht W σ H en c en1 _ hR e1 fun v W1 H1 x1 R1 v1 => ?_
  simp only at hf
  split at hf
  · rename_i y
    simp only [Option.bind_eq_some_iff] at hf
    obtain ⟨xs0, e0, ⟨c2, en2⟩, e2, k, e3, xs, e4, j, e5, hf⟩ := hf
    cases hf
    cases asInt_eq e3
    obtain ⟨a, vs0, g1, g2, _⟩ := R1.liv i xs0 e0
    refine ⟨.ref a, g1, hu W1 σ H1 en1 _ _ _ R1 e2 fun w W2 H2 x2 R2' w2 => ?_⟩
    cases rint w2
    obtain ⟨a', vs, k1, k2, k3, _⟩ := R2'.liv i xs e4
    rw [g1] at k1
    cases k1
    refine ⟨a, vs, k, j, rfl, rfl, k2, by rw [dpa_length k3]; exact e5, ?_⟩
    exact q W2 σ _ (x1.trans x2) (R2'.put e4 g1 (dpa_set (dp_mono x2.F _ _ v1) j k3))
  · cases hf
end
end L2.FL
set_option Elab.async false
set_option linter.all false
set_option maxRecDepth 100000
set_option maxHeartbeats 2000000
/-! FL8: list comprehensions. -/
namespace L2.FL
open PySem PySem.Spec PyProof.Rows L2

/-! ### one reading for all contexts -/
def canE (K : PySem.W.Frag) (f : EF) : TE := fun σ H Q => ∃ W en r en', R K W σ H en ∧ f en = some (r, en') ∧ ∀ v W' H', Ext W W' → R K W' σ H' en' → RVal K W'.F σ v r → Q v H'
def canT (K : PySem.W.Frag) (f : TF) : TT := fun σ H Q => ∃ W en r en', R K W σ H en ∧ f en = some (r, en') ∧ ∀ W' H', Ext W W' → R K W' σ H' en' → Q r H'
def canI (K : PySem.W.Frag) (f : IF) : TI := fun σ H Q => ∃ W en xs en', R K W σ H en ∧ f en = some (xs, en') ∧ ∀ J W' H', Ext W W' → R K W' σ H' en' → WalkD K J W'.F xs → Q J H'
def canG (K : PySem.W.Frag) (f : GF) (ws : List Nat) : TG := fun v σ H Q => ∃ W en x en', R K W σ H en ∧ Dq K W.F v x ∧ f x en = some en' ∧ ∀ σ', R K W σ' H en' → σ'.length = σ.length → (∀ j, j ∉ ws → σ'[j]? = σ[j]?) → Q σ' H
theorem pe_can {X : Cx} {e : Expr} {f : EF} (h : SE X e f) : PE X e (canE X.K f) := by
  obtain ⟨t, hp, ht⟩ := h.run
  exact ⟨fun pins s σ H Q I ⟨W, en, r, en', hR, hf, q⟩ => hp.run pins s σ H Q I (ht W σ H en r en' Q hR hf q)⟩
theorem pt_can {X : Cx} {e : Expr} {f : TF} (h : ST X e f) : PT X e (canT X.K f) := by
  obtain ⟨t, hp, ht⟩ := h.run
  exact ⟨fun pins s σ H Q I ⟨W, en, r, en', hR, hf, q⟩ => hp.run pins s σ H Q I (ht W σ H en r en' Q hR hf q)⟩
theorem pi_can {X : Cx} {tg e : Expr} {f : IF} (h : SI X tg e f) : PI X tg e (canI X.K f) := by
  obtain ⟨t, hp, ht⟩ := h.run
  exact ⟨fun pins s σ H Q I ⟨W, en, r, en', hR, hf, q⟩ => hp.run pins s σ H Q I (ht W σ H en r en' Q hR hf q)⟩
theorem pg_can {X : Cx} {e : Expr} {f : GF} {ws : List Nat} (h : SG X e f ws) : PG X e (canG X.K f ws) := by
  obtain ⟨t, hp, ht⟩ := h.run
  exact ⟨fun pins s σ H v u Q I r ⟨W, en, x, en', hR, hd, hf, q⟩ => hp.run pins s σ H v u Q I r (ht.go W σ H en v x en' Q hR hd hf q)⟩

/-! ### tests of a clause -/
structure STs (X : Cx) (ifs : List Expr) (f : TF) : Prop where
  run : PTs X ifs (canT X.K f)
def fYes : TF := fun en => some (true, en)
theorem sts_nil {X : Cx} : STs X [] fYes := ⟨⟨fun pins s σ H Q I ⟨W, en, r, en', hR, hf, q⟩ => by
  cases hf
  exact pts_nil.run pins s σ H Q I (q W H (Ext.refl _) hR)⟩⟩
theorem sts_one {X : Cx} {c : Expr} {f : TF} (h : ST X c f) : STs X [c] f := ⟨pts_one (pt_can h)⟩

/-! ### slots wiped and given back -/
def wipeE (en : En) : List Nat → En
  | [] => en
  | v :: vs => (wipeE en vs).set v none
def backE (en en' : En) (vs : List Nat) : En := vs.foldr (fun v e => e.set v ((en[v]?).getD none)) en'
def plainAt (en : En) (v : Nat) : Bool := match en[v]? with
  | some (some (.l _)) => false
  | some (some (.p _)) => false
  | _ => true
theorem wipeE_length (en : En) : ∀ vs, (wipeE en vs).length = en.length
  | [] => rfl
  | v :: vs => by unfold wipeE; rw [List.length_set, wipeE_length en vs]
theorem wipeE_get (en : En) (i : Nat) : ∀ vs, (wipeE en vs)[i]? = if i ∈ vs then (if i < en.length then some none else none) else en[i]?
  | [] => by simp [wipeE]
  | v :: vs => by
    unfold wipeE
    by_cases h : v = i
    · subst h
      rw [if_pos List.mem_cons_self]
      by_cases hl : v < en.length
      · rw [if_pos hl, List.getElem?_set_self (by rw [wipeE_length]; exact hl)]
      · rw [if_neg hl, List.getElem?_eq_none (by rw [List.length_set, wipeE_length]; omega)]
    · rw [List.getElem?_set_ne h, wipeE_get en i vs]
      by_cases h2 : i ∈ vs
      · rw [if_pos h2, if_pos (List.mem_cons_of_mem _ h2)]
      · rw [if_neg h2, if_neg (by simp only [List.mem_cons, not_or]; exact ⟨fun e => h e.symm, h2⟩)]
theorem wipe_get (σ : St) (i : Nat) : ∀ vs, (wipe σ vs)[i]? = if i ∈ vs then (if i < σ.length then some none else none) else σ[i]?
  | [] => by simp [wipe]
  | v :: vs => by
    unfold wipe
    by_cases h : v = i
    · subst h
      rw [if_pos List.mem_cons_self]
      by_cases hl : v < σ.length
      · rw [if_pos hl, List.getElem?_set_self (by rw [wipe_length]; exact hl)]
      · rw [if_neg hl, List.getElem?_eq_none (by rw [List.length_set, wipe_length]; omega)]
    · rw [List.getElem?_set_ne h, wipe_get σ i vs]
      by_cases h2 : i ∈ vs
      · rw [if_pos h2, if_pos (List.mem_cons_of_mem _ h2)]
      · rw [if_neg h2, if_neg (by simp only [List.mem_cons, not_or]; exact ⟨fun e => h e.symm, h2⟩)]
theorem backE_length (en en' : En) : ∀ vs, (backE en en' vs).length = en'.length
  | [] => rfl
  | v :: vs => by
    show ((backE en en' vs).set v _).length = _
    rw [List.length_set, backE_length en en' vs]
theorem backE_get (en en' : En) (i : Nat) : ∀ vs, (backE en en' vs)[i]? = if i ∈ vs then (if i < en'.length then some ((en[i]?).getD none) else none) else en'[i]?
  | [] => by simp [backE]
  | v :: vs => by
    show ((backE en en' vs).set v ((en[v]?).getD none))[i]? = _
    by_cases h : v = i
    · subst h
      rw [if_pos List.mem_cons_self]
      by_cases hl : v < en'.length
      · rw [if_pos hl, List.getElem?_set_self (by rw [backE_length]; exact hl)]
      · rw [if_neg hl, List.getElem?_eq_none (by rw [List.length_set, backE_length]; omega)]
    · rw [List.getElem?_set_ne h, backE_get en en' i vs]
      by_cases h2 : i ∈ vs
      · rw [if_pos h2, if_pos (List.mem_cons_of_mem _ h2)]
      · rw [if_neg h2, if_neg (by simp only [List.mem_cons, not_or]; exact ⟨fun e => h e.symm, h2⟩)]
theorem wipe_same {σ σ' : St} {vs : List Nat} (hl : σ'.length = σ.length) (h : ∀ j, j ∉ vs → σ'[j]? = σ[j]?) : wipe σ' vs = wipe σ vs := by
  apply List.ext_getElem?
  intro i
  rw [wipe_get, wipe_get, hl]
  by_cases hi : i ∈ vs
  · rw [if_pos hi, if_pos hi]
  · rw [if_neg hi, if_neg hi]; exact h i hi
section
variable {K : PySem.W.Frag} {W : Wd} {σ : St} {H : Hp} {en : En}
theorem live_of_get {e : En} {i : Nat} {xs : List PyData} (h : live e i = some xs) : e[i]? = some (some (.l xs)) ∨ e[i]? = some (some (.p xs)) := by
  unfold live at h
  split at h
  · rename_i ys e1; cases h; exact .inl e1
  · rename_i ys e1; cases h; exact .inr e1
  · cases h
theorem live_congr {e e' : En} {i : Nat} (h : e[i]? = e'[i]?) : live e i = live e' i := by
  unfold live; rw [h]
/-- a block's start: the slots vs are forgotten -/
theorem R.noPar (r : R K W σ H en) {vs : List Nat} (hp : ∀ v ∈ vs, plainAt en v = true) : ∀ q ∈ W.P, q.1 ∉ vs := fun q hq hm => by
  obtain ⟨h1, xs, h2⟩ := r.par q hq
  have := hp _ hm
  unfold plainAt at this
  rw [h2] at this
  cases this
theorem R.wipes (r : R K W σ H en) {vs : List Nat} (hp : ∀ q ∈ W.P, q.1 ∉ vs) : R K W (wipe σ vs) H (wipeE en vs) := by
  have no : ∀ {i : Nat} {s : SV}, (wipeE en vs)[i]? = some (some s) → i ∉ vs ∧ en[i]? = some (some s) := fun {i s} e => by
    rw [wipeE_get] at e
    by_cases hi : i ∈ vs
    · rw [if_pos hi] at e
      split at e <;> cases e
    · rw [if_neg hi] at e; exact ⟨hi, e⟩
  have nl : ∀ {i : Nat} {xs : List PyData}, live (wipeE en vs) i = some xs → i ∉ vs ∧ live en i = some xs := fun {i xs} e => by
    rcases live_of_get e with e | e
    · obtain ⟨h1, h2⟩ := no e; exact ⟨h1, live_l h2⟩
    · obtain ⟨h1, h2⟩ := no e; exact ⟨h1, live_p h2⟩
  refine ⟨by rw [wipe_length, wipeE_length]; exact r.len, r.subF, r.subG, r.dis, fun i x e => ?_, fun i xs e => ?_, fun i j a xs ys e1 e2 f1 f2 => ?_, fun q hq => ?_⟩
  · obtain ⟨h1, h2⟩ := no e
    rw [wipe_get, if_neg h1]
    exact r.dat i x h2
  · obtain ⟨h1, h2⟩ := nl e
    rw [wipe_get, if_neg h1]
    exact r.liv i xs h2
  · obtain ⟨h1, h2⟩ := nl e1
    obtain ⟨h3, h4⟩ := nl e2
    rw [wipe_get, if_neg h1] at f1
    rw [wipe_get, if_neg h3] at f2
    exact r.sep i j a xs ys h2 h4 f1 f2
  · obtain ⟨h1, xs, h2⟩ := r.par q hq
    have hn : q.1 ∉ vs := hp q hq
    rw [wipe_get, if_neg hn, wipeE_get, if_neg hn]
    exact ⟨h1, xs, h2⟩
/-- a block's end: the slots vs as they were -/
theorem R.back {W2 : Wd} {H2 : Hp} {en2 : En} {vs : List Nat} (r : R K W σ H en) (x : Ext W W2) (r2 : R K W2 (wipe σ vs) H2 en2) (hp : ∀ v ∈ vs, plainAt en v = true) (hn : ∀ v ∈ vs, ∀ s, en2[v]? ≠ some (some s)) : R K W2 σ H2 (backE en en2 vs) := by
  have hl : en2.length = en.length := by rw [← r2.len, wipe_length, r.len]
  have at1 : ∀ {i : Nat} {s : SV}, (backE en en2 vs)[i]? = some (some s) → (i ∈ vs ∧ en[i]? = some (some s)) ∨ (i ∉ vs ∧ en2[i]? = some (some s)) := fun {i s} e => by
    rw [backE_get] at e
    by_cases hi : i ∈ vs
    · rw [if_pos hi] at e
      split at e
      · cases q : en[i]? with
        | none => rw [q] at e; cases e
        | some o => rw [q] at e; cases e; exact .inl ⟨hi, rfl⟩
      · cases e
    · rw [if_neg hi] at e; exact .inr ⟨hi, e⟩
  have nl : ∀ {i : Nat} {xs : List PyData}, live (backE en en2 vs) i = some xs → i ∉ vs ∧ live en2 i = some xs := fun {i xs} e => by
    have go : ∀ s : SV, (backE en en2 vs)[i]? = some (some s) → (s = .l xs ∨ s = .p xs) → i ∉ vs ∧ live en2 i = some xs := fun s e hs => by
      rcases at1 e with ⟨h1, h2⟩ | ⟨h1, h2⟩
      · have := hp _ h1
        unfold plainAt at this
        rw [h2] at this
        rcases hs with rfl | rfl <;> cases this
      · rcases hs with rfl | rfl
        · exact ⟨h1, live_l h2⟩
        · exact ⟨h1, live_p h2⟩
    rcases live_of_get e with e | e
    · exact go _ e (.inl rfl)
    · exact go _ e (.inr rfl)
  have wg : ∀ {i : Nat} {v : V}, i ∉ vs → (wipe σ vs)[i]? = some (some v) → σ[i]? = some (some v) := fun {i v} h e => by
    rw [wipe_get, if_neg h] at e; exact e
  refine ⟨by rw [backE_length, hl]; exact r.len, r2.subF, r2.subG, r2.dis, fun i y e => ?_, fun i xs e => ?_, fun i j a xs ys e1 e2 f1 f2 => ?_, fun q hq => ?_⟩
  · rcases at1 e with ⟨h1, h2⟩ | ⟨h1, h2⟩
    · obtain ⟨v, h3, h4⟩ := r.dat i y h2
      exact ⟨v, h3, dp_mono x.F _ _ h4⟩
    · obtain ⟨v, h3, h4⟩ := r2.dat i y h2
      exact ⟨v, wg h1 h3, h4⟩
  · obtain ⟨h1, h2⟩ := nl e
    obtain ⟨a, ws, g1, g2⟩ := r2.liv i xs h2
    exact ⟨a, ws, wg h1 g1, g2⟩
  · obtain ⟨h1, h2⟩ := nl e1
    obtain ⟨h3, h4⟩ := nl e2
    exact r2.sep i j a xs ys h2 h4 (by rw [wipe_get, if_neg h1]; exact f1) (by rw [wipe_get, if_neg h3]; exact f2)
  · obtain ⟨h1, xs, h2⟩ := r2.par q hq
    have hm : q.1 ∉ vs := fun hm => hn _ hm _ h2
    exact ⟨wg hm h1, xs, by rw [backE_get, if_neg hm]; exact h2⟩
/-- an object nobody has is kept as it is for a while -/
theorem R.push (r : R K W σ H en) {D : Addr} {o : HO} (h : H D = some o) (hF : W.F D = none) (hu : Unowned σ en D) : R K { W with G := upd W.G D o } σ H en := by
  refine ⟨r.len, r.subF, fun a x e => ?_, fun a x e => ?_, r.dat, fun i xs e => ?_, r.sep, r.par⟩
  · by_cases q : a = D
    · subst q
      have e' : upd W.G a o a = some x := e
      rw [upd_same] at e'
      rw [h]; exact e'
    · have e' : upd W.G D o a = some x := e
      rw [upd_ne q] at e'
      exact r.subG _ _ e'
  · have q : a ≠ D := ne_of_none e hF
    show upd W.G D o a = none
    rw [upd_ne q]
    exact r.dis _ _ e
  · obtain ⟨a, vs, h1, h2, h3, h4, h5⟩ := r.liv i xs e
    have q : a ≠ D := fun z => hu i xs e (by rw [← z]; exact h1)
    refine ⟨a, vs, h1, h2, h3, h4, ?_⟩
    show upd W.G D o a = none
    rw [upd_ne q]; exact h5
theorem R.pop {D : Addr} {o : HO} {G : Hp} (hG : G D = none) (r : R K { W with G := upd G D o } σ H en) : R K { W with G := G } σ H en ∧ H D = some o ∧ W.F D = none ∧ Unowned σ en D := by
  have sG : Same G (upd G D o) := same_new hG
  have hD : (upd G D o) D = some o := upd_same
  refine ⟨⟨r.len, r.subF, sG.trans r.subG, fun a x e => sG.free (r.dis a x e), r.dat, fun i xs e => ?_, r.sep, r.par⟩, r.subG _ _ hD, ?_, fun i xs e q => ?_⟩
  · obtain ⟨a, vs, h1, h2, h3, h4, h5⟩ := r.liv i xs e
    exact ⟨a, vs, h1, h2, h3, h4, sG.free h5⟩
  · cases q : W.F D with
    | none => rfl
    | some u =>
      have := r.dis D u q
      rw [show (upd G D o) D = none from this] at hD
      cases hD
  · obtain ⟨a, vs, h1, h2, h3, h4, h5⟩ := r.liv i xs e
    rw [h1] at q
    cases q
    rw [show (upd G D o) D = none from h5] at hD
    cases hD
/-- the list that grows (nobody's) gets one more -/
theorem R.grow {D : Addr} {o o' : HO} {G : Hp} (hG : G D = none) (r : R K { W with G := upd G D o } σ H en) : R K { W with G := upd G D o' } σ (upd H D o') en := by
  obtain ⟨r1, h1, h2, h3⟩ := R.pop hG r
  have nF : ∀ a x, W.F a = some x → a ≠ D := fun a x e => ne_of_none e h2
  have nG : ∀ a x, G a = some x → a ≠ D := fun a x e => ne_of_none e hG
  have r2 : R K { W with G := G } σ (upd H D o') en := by
    refine ⟨r1.len, fun a x e => ?_, fun a x e => ?_, r1.dis, r1.dat, fun i xs e => ?_, r1.sep, r1.par⟩
    · rw [upd_ne (nF a x e)]; exact r1.subF _ _ e
    · rw [upd_ne (nG a x e)]; exact r1.subG _ _ e
    · obtain ⟨a, vs, g1, g2, g3⟩ := r1.liv i xs e
      have q : a ≠ D := fun z => h3 i xs e (by rw [← z]; exact g1)
      exact ⟨a, vs, g1, by rw [upd_ne q]; exact g2, g3⟩
  exact R.push r2 upd_same h2 h3
end

/-! ### [elt for target in iter if ..] -/
def lcL (g : GF) (tt : TF) (te : EF) (vs : List Nat) : List PyData → En → Option (List PyData × En)
  | [], en => some ([], en)
  | x :: xs, en => (g x en).bind fun en1 => (tt en1).bind fun p => if p.1 = true then (te p.2).bind fun q => match q.1 with
      | .d y => (lcL g tt te vs xs (wipeE q.2 vs)).bind fun r => some (y :: r.1, r.2)
      | _ => none
    else lcL g tt te vs xs (wipeE p.2 vs)
def fLc (it : IF) (g : GF) (tt : TF) (te : EF) (vs : List Nat) : LF := fun en => (it en).bind fun p => if p.1.length ≤ sizeLine ∧ vs.all (plainAt p.2) = true then
    (lcL g tt te vs p.1 (wipeE p.2 vs)).bind fun r => some (r.1, backE p.2 r.2 vs) else none
theorem lcL_wiped {g : GF} {tt : TF} {te : EF} {vs : List Nat} : ∀ {xs : List PyData} {en en' : En} {ys : List PyData}, lcL g tt te vs xs en = some (ys, en') → (∀ v ∈ vs, ∀ s, en[v]? ≠ some (some s)) → ∀ v ∈ vs, ∀ s, en'[v]? ≠ some (some s)
  | [], en, en', ys, h, hn => by
    simp only [lcL, Option.some.injEq, Prod.mk.injEq] at h
    obtain ⟨_, rfl⟩ := h
    exact hn
  | x :: xs, en, en', ys, h, hn => by
    have wz : ∀ e : En, ∀ v ∈ vs, ∀ s, (wipeE e vs)[v]? ≠ some (some s) := fun e v hv s q => by
      rw [wipeE_get, if_pos hv] at q
      split at q <;> cases q
    simp only [lcL, Option.bind_eq_some_iff] at h
    obtain ⟨en1, e1, ⟨b, en2⟩, e2, h⟩ := h
    cases b with
    | true =>
      simp only [if_true, Option.bind_eq_some_iff] at h
      obtain ⟨⟨c, en3⟩, e3, h⟩ := h
      simp only at h
      split at h
      · simp only [Option.bind_eq_some_iff] at h
        obtain ⟨⟨zs, en4⟩, e4, h⟩ := h
        simp only [Option.some.injEq, Prod.mk.injEq] at h
        obtain ⟨_, rfl⟩ := h
        exact lcL_wiped e4 (wz _)
      · cases h
    | false =>
      simp only [Bool.false_eq_true, if_false] at h
      exact lcL_wiped h (wz _)
theorem slt_lc {K : PySem.W.Frag} {it : IF} {g : GF} {tt : TF} {te : EF} {vs ws : List Nat} (hw : ∀ w ∈ ws, w ∈ vs) : SLt K (tLc (canI K it) (canG K g ws) (canT K tt) (canE K te) vs) (fLc it g tt te vs) := by
  intro W σ H en zs en' Q hR hf q
  simp only [fLc, Option.bind_eq_some_iff] at hf
  obtain ⟨⟨xs, en1⟩, e1, hf⟩ := hf
  simp only at hf
  split at hf
  · rename_i hz
    obtain ⟨hz, hpl⟩ := hz
    have hpl' : ∀ v ∈ vs, plainAt en1 v = true := List.all_eq_true.mp hpl
    simp only [Option.bind_eq_some_iff] at hf
    obtain ⟨⟨ys, enE⟩, eE, hf⟩ := hf
    simp only [Option.some.injEq, Prod.mk.injEq] at hf
    obtain ⟨rfl, rfl⟩ := hf
    refine ⟨W, en, xs, en1, hR, e1, fun J W1 H1 x1 R1 w D hD => ?_⟩
    have hGD : W1.G D = none := R1.freshG hD
    have hpar := R1.noPar hpl'
    have R1w := R1.wipes hpar
    have R2 : R K { W1 with G := upd W1.G D (.lst []) } (wipe σ vs) (upd H1 D (.lst [])) (wipeE en1 vs) := (R1w.laid (.lst []) hD).push upd_same (R1.freshF hD) (R1w.unowned hD)
    have wz : ∀ e : En, ∀ v ∈ vs, ∀ s, (wipeE e vs)[v]? ≠ some (some s) := fun e v hv s q => by
      rw [wipeE_get, if_pos hv] at q
      split at q <;> cases q
    refine ⟨fun i m H' => m = xs.length - i ∧ i ≤ xs.length ∧ ∃ (W2 : Wd) (en2 : En) (acc : List V) (ps rs : List PyData), Ext W1 W2 ∧ R K { W2 with G := upd W1.G D (.lst acc) } (wipe σ vs) H' en2 ∧ DqAll K W2.F acc ps ∧ ps.length ≤ i ∧
        lcL g tt te vs (xs.drop i) en2 = some (rs, enE) ∧ ps ++ rs = ys ∧ (∀ v ∈ vs, ∀ s, en2[v]? ≠ some (some s)), ⟨xs.length, by simp, Nat.zero_le _, W1, wipeE en1 vs, [], [], ys, Ext.refl _, R2, .nil, Nat.zero_le _, by simpa using eE, rfl, wz _⟩, ?_⟩
    rintro i m H3 ⟨rfl, hi, W2, en2, acc, ps, rs, x2, R3, hacc, hps, hlc, hys, hno⟩
    by_cases hlt : i < xs.length
    · have ex : xs[i]? = some xs[i] := List.getElem?_eq_getElem hlt
      have ed : xs.drop i = xs[i] :: xs.drop (i + 1) := List.drop_eq_getElem_cons hlt
      rw [ed] at hlc
      simp only [lcL, Option.bind_eq_some_iff] at hlc
      obtain ⟨en3, e3, ⟨b, en4⟩, e4, hlc⟩ := hlc
      obtain ⟨hgo, hy⟩ := w.go i _ ex { W2 with G := upd W1.G D (.lst acc) } _ H3 en2 x2.F R3
      refine .inr ⟨hgo, fun H' => ∃ (W2 : Wd) (en2 : En) (acc : List V) (ps rs : List PyData), Ext W1 W2 ∧ R K { W2 with G := upd W1.G D (.lst acc) } (wipe σ vs) H' en2 ∧ DqAll K W2.F acc ps ∧ ps.length ≤ i + 1 ∧
        lcL g tt te vs (xs.drop (i + 1)) en2 = some (rs, enE) ∧ ps ++ rs = ys ∧ (∀ v ∈ vs, ∀ s, en2[v]? ≠ some (some s)), fun H' h => ⟨xs.length - (i + 1), by omega, rfl, hlt, h⟩, fun v H4 y => ?_⟩
      obtain ⟨W4, x4, R4, hd⟩ := hy v H4 y
      refine ⟨W4, en2, _, en3, R4, hd, e3, fun σ2 R5 l5 k5 => ?_⟩
      have hws : wipe σ2 vs = wipe σ vs := by
        have := wipe_same (σ := wipe σ vs) (σ' := σ2) (vs := vs) l5 fun j hj => k5 j fun hm => hj (hw j hm)
        rw [this]
        apply List.ext_getElem?
        intro j
        rw [wipe_get, wipe_get, wipe_length]
        by_cases hj : j ∈ vs
        · rw [if_pos hj, if_pos hj]
        · rw [if_neg hj, if_neg hj]
      refine ⟨hws, W4, en3, b, en4, R5, e4, fun W6 H6 x6 R6 => ?_⟩
      have x46 : Ext { W2 with G := upd W1.G D (.lst acc) } W6 := x4.trans x6
      have back : ∀ {W' : Wd} {H' : Hp} {e' : En}, Ext { W2 with G := upd W1.G D (.lst acc) } W' → R K W' σ2 H' e' → R K W' (wipe σ vs) H' (wipeE e' vs) := fun {W' H' e'} x' R' => by
        have := R'.wipes (vs := vs) (by rw [x'.P]; show ∀ q ∈ W2.P, _; rw [x2.P]; exact hpar)
        rwa [hws] at this
      have asG : ∀ {W' : Wd}, Ext { W2 with G := upd W1.G D (.lst acc) } W' → W' = { W' with G := upd W1.G D (.lst acc) } := fun {W'} x' => by
        have hg := x'.G
        cases W'
        simp only at hg
        rw [hg]
      cases b with
      | true =>
        simp only [if_true, Option.bind_eq_some_iff] at hlc ⊢
        obtain ⟨⟨c, en7⟩, e7, hlc⟩ := hlc
        simp only at hlc
        split at hlc
        · rename_i y
          simp only [Option.bind_eq_some_iff] at hlc
          obtain ⟨⟨ys8, en8⟩, e8, hlc⟩ := hlc
          simp only [Option.some.injEq, Prod.mk.injEq] at hlc
          obtain ⟨h8, rfl⟩ := hlc
          refine ⟨W6, en4, _, en7, R6, e7, fun vy W7 H7 x7 R7 v7 => ?_⟩
          have x47 := x46.trans x7
          have R7w := back x47 R7
          rw [asG x47] at R7w
          have hDl : H7 D = some (.lst acc) := (R.pop hGD R7w).2.1
          refine ⟨acc, hDl, ?_, ?_⟩
          · rw [dpa_length hacc]; omega
          · refine ⟨{ W7 with G := W1.G }, wipeE en7 vs, acc ++ [vy], ps ++ [y], ys8, ⟨x2.F.trans x47.F, rfl, x47.P.trans x2.P⟩, R.grow hGD R7w, dpa_app (dpa_mono x47.F _ _ hacc) (dqa_one v7), by simp; omega, e8, ?_, wz _⟩
            rw [List.append_assoc, List.singleton_append, h8]
            exact hys
        · cases hlc
      | false =>
        simp only [Bool.false_eq_true, if_false] at hlc ⊢
        have R6w := back x46 R6
        rw [asG x46] at R6w
        exact ⟨{ W6 with G := W1.G }, wipeE en4 vs, acc, ps, rs, ⟨x2.F.trans x46.F, rfl, x46.P.trans x2.P⟩, R6w, dpa_mono x46.F _ _ hacc, by omega, hlc, hys, wz _⟩
    · have ei : i = xs.length := by omega
      subst ei
      rw [List.drop_length] at hlc
      simp only [lcL, Option.some.injEq, Prod.mk.injEq] at hlc
      obtain ⟨rfl, rfl⟩ := hlc
      rw [List.append_nil] at hys
      subst hys
      refine .inl ⟨w.stop { W2 with G := upd W1.G D (.lst acc) } _ H3 en2 x2.F R3, ?_⟩
      obtain ⟨r1, h1, h2, h3⟩ := R.pop hGD R3
      have x12 : Ext W1 { W2 with G := W1.G } := ⟨x2.F, rfl, x2.P⟩
      have rb := R1.back x12 r1 hpl' hno
      refine q D acc _ H3 (x1.trans x12) rb h1 hacc h2 hGD fun j zs hj hq => ?_
      -- nobody has D behind the block
      obtain ⟨a, us, g1, g2, g3, g4, g5⟩ := rb.liv j zs hj
      rw [g1] at hq
      cases hq
      have hD1 : live (backE en1 en2 vs) j = live en2 j ∨ j ∈ vs := by
        by_cases hjv : j ∈ vs
        · exact .inr hjv
        · refine .inl (live_congr ?_)
          rw [backE_get, if_neg hjv]
      rcases hD1 with e | e
      · rw [e] at hj
        obtain ⟨a2, us2, k1, k2, k3, k4, k5⟩ := r1.liv j zs hj
        refine h3 j zs hj ?_
        have hjv : j ∉ vs := fun hm => by
          rcases live_of_get hj with z | z
          · exact hno j hm _ z
          · exact hno j hm _ z
        rw [wipe_get, if_neg hjv]
        exact g1
      · have := hpl' j e
        rcases live_of_get hj with z | z
        · rw [backE_get, if_pos e] at z
          split at z
          · cases q2 : en1[j]? with
            | none => rw [q2] at z; cases z
            | some o =>
              rw [q2] at z
              cases z
              unfold plainAt at this
              rw [q2] at this
              cases this
          · cases z
        · rw [backE_get, if_pos e] at z
          split at z
          · cases q2 : en1[j]? with
            | none => rw [q2] at z; cases z
            | some o =>
              rw [q2] at z
              cases z
              unfold plainAt at this
              rw [q2] at this
              cases this
          · cases z
  · cases hf
section
variable {X : Cx}
/-- [..] as a new list -/
theorem sl_lc {elt tg iter : Expr} {ifs : List Expr} {scope : Scope} {own : List (Str × Nat)} {pos : Pos} {it : IF} {g : GF} {tt : TF} {te : EF} {ws : List Nat} (hc : X.calm = true) (hN : X.N.Nodup) (hi : SI X tg iter it) (ok : BlkOk X.N X.env.scope scope own)
    (hg : ∀ (s : Shared) (H : Hp) (C : Addr) (cl : List (Str × Addr)) (fp : List Addr), SG (X.blk s H scope (compEnvC scope cl C X.env) fp) tg g ws) (ht : ∀ (s : Shared) (H : Hp) (C : Addr) (cl : List (Str × Addr)) (fp : List Addr), STs (X.blk s H scope (compEnvC scope cl C X.env) fp) ifs tt)
    (he : ∀ (s : Shared) (H : Hp) (C : Addr) (cl : List (Str × Addr)) (fp : List Addr), SE (X.blk s H scope (compEnvC scope cl C X.env) fp) elt te) (hw : ∀ w ∈ ws, w ∈ own.map (·.2)) (hs : ∀ x, foldedSetIterable iter X.env x = pure x := by intro _; rfl) :
    SL X (.ListComp elt [⟨tg, iter, ifs, 0⟩] scope pos) (fLc it g tt te (own.map (·.2))) :=
  ⟨_, pe_lc hc hN (g := canG X.K g ws) (tt := canT X.K tt) (te := canE X.K te) (pi_can hi) ok (fun s H C cl fp => pg_can (hg s H C cl fp)) (fun s H C cl fp => (ht s H C cl fp).run) (fun s H C cl fp => pe_can (he s H C cl fp)) hs, slt_lc hw⟩
/-- y = [..] on one line: kept for good -/
theorem ss_setLc {i : Nat} {y : Str} {py : Pos} {elt tg iter : Expr} {ifs : List Expr} {scope : Scope} {own : List (Str × Nat)} {pos spos : Pos} {it : IF} {g : GF} {tt : TF} {te : EF} {ws : List Nat} (hc : X.calm = true) (hN : X.N.Nodup) (hi : SI X tg iter it) (ok : BlkOk X.N X.env.scope scope own)
    (hg : ∀ (s : Shared) (H : Hp) (C : Addr) (cl : List (Str × Addr)) (fp : List Addr), SG (X.blk s H scope (compEnvC scope cl C X.env) fp) tg g ws) (ht : ∀ (s : Shared) (H : Hp) (C : Addr) (cl : List (Str × Addr)) (fp : List Addr), STs (X.blk s H scope (compEnvC scope cl C X.env) fp) ifs tt)
    (he : ∀ (s : Shared) (H : Hp) (C : Addr) (cl : List (Str × Addr)) (fp : List Addr), SE (X.blk s H scope (compEnvC scope cl C X.env) fp) elt te) (hw : ∀ w ∈ ws, w ∈ own.map (·.2))
    (hsw : swapsWith (.ListComp elt [⟨tg, iter, ifs, 0⟩] scope pos) (some (.Name y py)) spos.line X.env = pure true) (hy : X.N[i]? = some y := by rfl) (hyl : X.env.scope.names.lookup y = some .local := by rfl) (hs : ∀ x, foldedSetIterable iter X.env x = pure x := by intro _; rfl) :
    SS X (.Assign [.Name y py] (.ListComp elt [⟨tg, iter, ifs, 0⟩] scope pos) spos) (sAsg (gSet i) (fOfL (fLc it g tt te (own.map (·.2))))) := by
  refine ⟨_, ps_setLc hc hN hy hyl hsw (g := canG X.K g ws) (tt := canT X.K tt) (te := canE X.K te) (pi_can hi) ok (fun s H C cl fp => pg_can (hg s H C cl fp)) (fun s H C cl fp => (ht s H C cl fp).run) (fun s H C cl fp => pe_can (he s H C cl fp)) hs, sst_asg (fun W σ H en r en' Q hR hf q => ?_) sgt_name⟩
  simp only [fOfL, Option.bind_eq_some_iff] at hf
  obtain ⟨⟨xs, en1⟩, e1, hf⟩ := hf
  cases hf
  refine slt_lc hw W σ H en xs _ Q hR e1 fun a vs W' H' hx hR' h1 h2 h3 h4 h5 => ?_
  exact q _ _ H' (hx.trans (ext_new hR' _ h3)) (hR'.keep h1 h3 h4 h5) (.lst (.of upd_same) (dpa_mono (same_new h3) _ _ h2))
/-- the same, a list that may still change -/
theorem ss_setLcL {i : Nat} {y : Str} {py : Pos} {elt tg iter : Expr} {ifs : List Expr} {scope : Scope} {own : List (Str × Nat)} {pos spos : Pos} {it : IF} {g : GF} {tt : TF} {te : EF} {ws : List Nat} (hc : X.calm = true) (hN : X.N.Nodup) (hi : SI X tg iter it) (ok : BlkOk X.N X.env.scope scope own)
    (hg : ∀ (s : Shared) (H : Hp) (C : Addr) (cl : List (Str × Addr)) (fp : List Addr), SG (X.blk s H scope (compEnvC scope cl C X.env) fp) tg g ws) (ht : ∀ (s : Shared) (H : Hp) (C : Addr) (cl : List (Str × Addr)) (fp : List Addr), STs (X.blk s H scope (compEnvC scope cl C X.env) fp) ifs tt)
    (he : ∀ (s : Shared) (H : Hp) (C : Addr) (cl : List (Str × Addr)) (fp : List Addr), SE (X.blk s H scope (compEnvC scope cl C X.env) fp) elt te) (hw : ∀ w ∈ ws, w ∈ own.map (·.2))
    (hsw : swapsWith (.ListComp elt [⟨tg, iter, ifs, 0⟩] scope pos) (some (.Name y py)) spos.line X.env = pure true) (hy : X.N[i]? = some y := by rfl) (hyl : X.env.scope.names.lookup y = some .local := by rfl) (hs : ∀ x, foldedSetIterable iter X.env x = pure x := by intro _; rfl) :
    SS X (.Assign [.Name y py] (.ListComp elt [⟨tg, iter, ifs, 0⟩] scope pos) spos) (sAsgL i (fLc it g tt te (own.map (·.2)))) :=
  ⟨_, ps_setLc hc hN hy hyl hsw (g := canG X.K g ws) (tt := canT X.K tt) (te := canE X.K te) (pi_can hi) ok (fun s H C cl fp => pg_can (hg s H C cl fp)) (fun s H C cl fp => (ht s H C cl fp).run) (fun s H C cl fp => pe_can (he s H C cl fp)) hs, sst_asgL (slt_lc hw)⟩
end
end L2.FL
set_option Elab.async false
set_option linter.all false
set_option maxRecDepth 100000
set_option maxHeartbeats 2000000
/-! FL9: defs and their calls; the law's own call. -/
namespace L2.FL
open PySem PySem.Spec PyProof.Rows L2

/-! ### a def, called where no repr is under way -/
structure FnG (P : Program) (w : World) (K : PySem.W.Frag) (mg : Str → Option Value) (base : Heap) (k : Nat) (f : Addr) (fd : FuncData) (ps : List Str) (sp : Sp) : Prop where
  len : ∀ vs H Q E, sp vs H Q E → vs.length = ps.length
  run : ∀ (A : Around) (outer : List Env) (s : Shared) (H : Hp) (args : Args) (us : List Value) (vs : List V) (Q : VK) (E : XK), Room k A → A.guards = some [] → Env0 P w K mg base A outer s H → BindsTo s fd args (ps.zip us) → Vals vs us → sp vs H Q E →
    codeAny (model P w) A (.call (.ref f) args) (CR CX0 outer P w H s Q E) s
section
variable {X : Cx} {k : Nat} {f : Addr} {fd : FuncData} {ps : List Str} {sp : Sp} {dvs : List V} {ds : List Value} {x : Str} {p pos : Pos} {e : Expr} {es : List Expr} {t : TA}
theorem run_g {pins : List (Addr × Obj)} {σ : St} {H : Hp} {s : Shared} {Q : VK} {us : List Value} {vs : List V} (F : FnG X.prog X.w X.K X.mg X.base k f fd ps sp) (hr : Room k X.A) (hg : X.A.guards = some []) (hb : Binds X.K fd ps ds) (hd : Vals dvs ds)
    (I : Inv X pins σ H s) (r : Vals vs us) (h : sp (vs ++ dvs) H Q E0) : wpAny (model X.prog X.w) X.A (call (.ref f) us) (EP X pins σ Q) X.xe s := by
  have ra : Vals (vs ++ dvs) (us ++ ds) := r.append hd
  have hl : (us ++ ds).length = ps.length := ra.length ▸ F.len _ _ _ _ h
  refine wpAny_call (codeAny_mono (F.run X.A X.stack s H ⟨us, []⟩ _ _ Q E0 hr hg I.env0 (hb s us I.kIn hl) ra h) fun res s' hq => ?_)
  match res, hq with
  | .ok (.ret u), hq => exact I.after hq
theorem pe_callG (F : FnG X.prog X.w X.K X.mg X.base k f fd ps sp) (hr : Room k X.A) (hgd : X.A.guards = some []) (hg : Gl X x) (hm : X.mg x = some (.ref f)) (hk : PySem.W.keepIn X.K (.ref f) = true) (hb : Binds X.K fd ps ds) (hd : Vals dvs ds)
    (ha : PA X (e :: es) t) (hdb : (x == ("__debug__" : Str)) = false := by decide) (he : starEach (e :: es) X.env = (false, eval e X.env) :: starEach es X.env := by rfl) (hpl : (backTo pos (starEach es X.env)).any (·.1) = false := by rfl) :
    PE X (.Call (.Name x p) (e :: es) [] pos) (tCall sp dvs E0 t) := by
  refine ⟨fun pins s σ H Q I h => wpAny_Call_Name_kw (ld_glob I hg hm ?_ hdb)⟩
  refine PySem.W.callWith_K (h₀ := X.base) I.ok.mod.kin hk (thn (ha.run pos pins s σ H _ I h) ?_) he hpl
  intro us s1 ⟨vs, H1, I1, r, q⟩
  exact ⟨I1.kIn, run_g F hr hgd hb hd I1 r q⟩
end
theorem fn_ofG {P : Program} {w : World} {K : PySem.W.Frag} {mg : Str → Option Value} {base : Heap} {k : Nat} {f : Addr} {name qual : Str} {params : Arguments} {body : List Stmt} {scope : Scope} {dV kV doc pm cdv ct oc : Value} {an od : Option Addr}
    {osl : Array (Option Value)} {N ps : List Str} {sp : Sp} (lk : K.lookup f = some ⟨oc, od, .func (PySem.W.fnOf name qual params body scope dV kV doc pm an cdv ct), osl⟩) (hcd : PySem.W.codeIn K cdv qual = true) (S : FnScope N ps scope)
    (len : ∀ vs H Q E, sp vs H Q E → vs.length = ps.length)
    (hbody : ∀ (A : Around) (outer : List Env) (s : Shared) (H : Hp) (vs : List V) (Q : VK) (E : XK), Room k (A.deeper (envOfC qual scope s.heap.objs.size f cdv)) → (A.deeper (envOfC qual scope s.heap.objs.size f cdv)).guards = some [] → sp vs H Q E →
      ∃ t, PSs (cxOf CX0 P w K mg base N qual scope f cdv A outer s H E) body t ∧ t { nx := fun _ H' => Q .non H', rt := Q } (start N vs) H) :
    FnG P w K mg base (k + 1) f (PySem.W.fnOf name qual params body scope dV kV doc pm an cdv ct) ps sp where
  len := len
  run := fun A outer s H args us vs Q E hr hgd e0 hb r hsp => by
    have hl := len _ _ _ _ hsp
    have KX : K.In s.heap := e0.mod.kin.keeps fun b o e => (e0.bs b o e).1
    have lim := e0.mod.nolimit.keeps fun b o e => (e0.bs b o e).1
    refine codeAny_call_function hr.depth (KX _ _ lk) rfl S.co S.gen rfl (PySem.W.codeRec_of KX hcd) (hb _ _ _ _ (wpAny_newFunctionEnv_cells S.kind ?_ ?_))
    · rintro ⟨n, v⟩ hy
      cases S.par n (List.of_mem_zip hy).1 with
      | inl q => exact .inl q
      | inr q => exact .inr ⟨q, PySem.W.cellsFrom_some _ _ _ (.inl q)⟩
    · rintro env rfl s1 x
      refine ⟨lim.keeps x.toInCall.keep, codeAny_func ?_⟩
      obtain ⟨t, ht, hq⟩ := hbody A outer s H vs Q E (hr.deeper _) hgd hsp
      refine wpAny_mono (ht.run [] s1 _ H _ (inv_start S hr.hd e0 hl r x) hq) ?_ fun _ _ hs => hs
      intro fl s' hs
      have close : ∀ {σ' : St} {H' : Hp} {v : V} {u : Value}, Inv (cxOf CX0 P w K mg base N qual scope f cdv A outer s H E) [] σ' H' s' → RelV v u → Q v H' → CE outer P w H s Q u s' :=
        fun J rv q => ⟨_, _, J.os, J.bare, J.base, J.hok, rv, q⟩
      match fl, hs with
      | .ret u, ⟨v, σ', H', J, rv, q⟩ => exact close J rv q
      | .next, ⟨σ', H', J, q⟩ => exact close (v := V.non) (u := Value.none) J rfl q
      | .brk, ⟨_, _, _, q⟩ => exact q.elim
      | .cont, ⟨_, _, _, q⟩ => exact q.elim
theorem Fun.okG {P : Program} {w : World} {K : PySem.W.Frag} {mg : Str → Option Value} {base : Heap} {x qual : Str} {st : Stmt} {f : Addr} {fd : FuncData} {N ps : List Str} {k : Nat} {sp : Sp} (F : Fun K x qual st f fd) (S : FnScope N ps (defScope st)) (len : ∀ vs H Q E, sp vs H Q E → vs.length = ps.length)
    (hbody : ∀ (cdv : Value) (A : Around) (outer : List Env) (s : Shared) (H : Hp) (vs : List V) (Q : VK) (E : XK), Room k (A.deeper (envOfC qual (defScope st) s.heap.objs.size f cdv)) → (A.deeper (envOfC qual (defScope st) s.heap.objs.size f cdv)).guards = some [] → sp vs H Q E →
      ∃ t, PSs (cxOf CX0 P w K mg base N qual (defScope st) f cdv A outer s H E).nox (defBody st) t ∧ t { nx := fun _ H' => Q .non H', rt := Q } (start N vs) H) : FnG P w K mg base (k + 1) f fd ps sp := by
  obtain ⟨oc, od, kV, doc, pm, an, cdv, ct, osl, rfl, lk, hcd⟩ := F.ex
  refine fn_ofG lk hcd S len fun A outer s H vs Q E hr hg hsp => ?_
  obtain ⟨t, h, q⟩ := hbody cdv A outer s H vs Q E hr hg hsp
  exact ⟨t, h.nox, q⟩

/-! ### the promise: the def's function over data -/
/-- what stands in the parameters behind the call: the callers' lists as they are then -/
def outP : List SV → En → List SV
  | [], _ => []
  | a :: r, en => (match a with
      | .p xs => match en with
        | some (.p ys) :: _ => SV.p ys
        | _ => SV.p xs
      | a => a) :: outP r en.tail
def fcall (g : SF) (n : Nat) (args : List SV) : Option (PyData × List SV) := (g (args.map some ++ List.replicate n none)).bind fun r => match r.1 with
  | .rt x => some (x, outP args r.2)
  | .nx => some (.none, outP args r.2)
  | _ => none
/-- the callers' lists, by their places -/
def parsOf : Nat → List SV → List V → List (Nat × Addr)
  | i, .p _ :: r, .ref a :: vs => (i, a) :: parsOf (i + 1) r vs
  | i, _ :: r, _ :: vs => parsOf (i + 1) r vs
  | _, _, _ => []
def noL : List SV → Bool
  | [] => true
  | .l _ :: _ => false
  | _ :: r => noL r
def spF (K : PySem.W.Frag) (g : SF) (m n : Nat) : Sp := fun vs H Q _ => ∃ (W : Wd) (args : List SV) (x : PyData) (args' : List SV), args.length = m ∧ W.P = parsOf 0 args vs ∧ noL args = true ∧ R K W (vs.map some) H (args.map some) ∧ fcall g n args = some (x, args') ∧
  ∀ v W' H', Ext W W' → R K W' (vs.map some) H' (args'.map some) → Dq K W'.F v x → Q v H'
end L2.FL
set_option Elab.async false
set_option linter.all false
set_option maxRecDepth 100000
set_option maxHeartbeats 2000000
/-! FL10: a def keeps its function; its calls. -/
namespace L2.FL
open PySem PySem.Spec PyProof.Rows L2

theorem outP_length : ∀ (as : List SV) (en : En), (outP as en).length = as.length
  | [], _ => rfl
  | a :: r, en => by simp [outP, outP_length r]
theorem outP_get : ∀ (as : List SV) (en : En) (i : Nat), (outP as en)[i]? = (as[i]?).map fun a => match a with
      | .p xs => match en[i]? with
        | some (some (.p ys)) => SV.p ys
        | _ => SV.p xs
      | a => a
  | [], _, i => by simp [outP]
  | a :: r, en, 0 => by
    cases a with
    | d x => simp [outP]
    | l x => simp [outP]
    | p xs =>
      simp only [outP, List.getElem?_cons_zero, Option.map_some]
      cases en with
      | nil => simp
      | cons o e =>
        cases o with
        | none => simp
        | some s => cases s <;> simp
  | a :: r, en, i + 1 => by
    simp only [outP, List.getElem?_cons_succ]
    rw [outP_get r en.tail i]
    cases en with
    | nil => simp
    | cons o e => simp
theorem mem_pars : ∀ {as : List SV} {vs : List V} {n : Nat} {q : Nat × Addr}, q ∈ parsOf n as vs → ∃ i xs, q.1 = n + i ∧ as[i]? = some (.p xs) ∧ vs[i]? = some (.ref q.2)
  | [], _, n, q, h => by simp [parsOf] at h
  | a :: r, [], n, q, h => by cases a <;> simp [parsOf] at h
  | a :: r, v :: vs, n, q, h => by
    have go : q ∈ parsOf (n + 1) r vs → ∃ i xs, q.1 = n + i ∧ (a :: r)[i]? = some (.p xs) ∧ (v :: vs)[i]? = some (.ref q.2) := fun h => by
      obtain ⟨i, xs, h1, h2, h3⟩ := mem_pars h
      exact ⟨i + 1, xs, by omega, by simpa using h2, by simpa using h3⟩
    cases a with
    | d x => exact go (by simpa [parsOf] using h)
    | l x => exact go (by simpa [parsOf] using h)
    | p xs =>
      cases v with
      | ref ad =>
        simp only [parsOf, List.mem_cons] at h
        rcases h with rfl | h
        · exact ⟨0, xs, rfl, rfl, rfl⟩
        · exact go h
      | non => exact go (by simpa [parsOf] using h)
      | bl b => exact go (by simpa [parsOf] using h)
      | int b => exact go (by simpa [parsOf] using h)
      | str b => exact go (by simpa [parsOf] using h)
      | byt b => exact go (by simpa [parsOf] using h)
      | flt b => exact go (by simpa [parsOf] using h)
      | ty b => exact go (by simpa [parsOf] using h)
theorem pars_mem : ∀ {as : List SV} {vs : List V} {n i : Nat} {xs : List PyData} {ad : Addr}, as[i]? = some (.p xs) → vs[i]? = some (.ref ad) → (n + i, ad) ∈ parsOf n as vs
  | [], _, n, i, xs, ad, h, _ => by simp at h
  | a :: r, [], n, i, xs, ad, _, h => by simp at h
  | a :: r, v :: vs, n, 0, xs, ad, h, h2 => by
    simp at h h2
    subst h; subst h2
    simp [parsOf]
  | a :: r, v :: vs, n, i + 1, xs, ad, h, h2 => by
    have ih := pars_mem (n := n + 1) (i := i) (xs := xs) (ad := ad) (as := r) (vs := vs) (by simpa using h) (by simpa using h2)
    have e : n + (i + 1) = n + 1 + i := by omega
    rw [e]
    cases a with
    | d x => simpa [parsOf] using ih
    | l x => simpa [parsOf] using ih
    | p ys => cases v <;> simp [parsOf, ih]
theorem noL_get : ∀ {as : List SV} {i : Nat} {xs : List PyData}, noL as = true → as[i]? ≠ some (.l xs)
  | [], i, xs, _, e => by simp at e
  | a :: r, 0, xs, h, e => by
    simp at e
    subst e
    simp [noL] at h
  | a :: r, i + 1, xs, h, e => by
    have e' : r[i]? = some (.l xs) := by simpa using e
    have h' : noL r = true := by
      cases a with
      | l x => simp [noL] at h
      | d x => simpa [noL] using h
      | p x => simpa [noL] using h
    exact noL_get h' e'
section
variable {K : PySem.W.Frag} {W : Wd} {σ : St} {H : Hp} {en : En}
theorem none_tail {α : Type} {l : List (Option α)} {n i : Nat} {x : α} (h : (l ++ List.replicate n none)[i]? = some (some x)) : l[i]? = some (some x) := by
  by_cases hi : i < l.length
  · rw [List.getElem?_append_left hi] at h; exact h
  · rw [List.getElem?_append_right (by omega), List.getElem?_replicate] at h
    split at h <;> cases h
theorem tail_some {α : Type} {l : List (Option α)} {n i : Nat} {x : α} (h : l[i]? = some (some x)) : (l ++ List.replicate n none)[i]? = some (some x) := by
  have hi := (List.getElem?_eq_some_iff.mp h).1
  rw [List.getElem?_append_left hi]; exact h
/-- the def's other names, not yet set -/
theorem R.more (r : R K W σ H en) (n : Nat) : R K W (σ ++ List.replicate n none) H (en ++ List.replicate n none) := by
  have nl : ∀ {i : Nat} {xs : List PyData}, live (en ++ List.replicate n none) i = some xs → live en i = some xs := fun {i xs} e => by
    rcases live_of_get e with e | e
    · exact live_l (none_tail e)
    · exact live_p (none_tail e)
  refine ⟨by simp [r.len], r.subF, r.subG, r.dis, fun i x e => ?_, fun i xs e => ?_, fun i j a xs ys e1 e2 f1 f2 => r.sep i j a xs ys (nl e1) (nl e2) (none_tail f1) (none_tail f2), fun q hq => ?_⟩
  · obtain ⟨v, h1, h2⟩ := r.dat i x (none_tail e)
    exact ⟨v, tail_some h1, h2⟩
  · obtain ⟨a, vs, h1, h2⟩ := r.liv i xs (nl e)
    exact ⟨a, vs, tail_some h1, h2⟩
  · obtain ⟨h1, xs, h2⟩ := r.par q hq
    exact ⟨tail_some h1, xs, tail_some h2⟩
theorem map_get {α : Type} {l : List α} {i : Nat} {x : α} : (l.map some)[i]? = some (some x) ↔ l[i]? = some x := by
  rw [List.getElem?_map]
  cases l[i]? with
  | none => simp
  | some y => simp
/-- behind the body: the parameters alone -/
theorem R.params {W' : Wd} {σ' : St} {H' : Hp} {en' : En} {vs : List V} {as : List SV} (r : R K W (vs.map some) H (as.map some)) (hP : W.P = parsOf 0 as vs) (hL : noL as = true) (x : Ext W W') (r' : R K W' σ' H' en') : R K W' (vs.map some) H' ((outP as en').map some) := by
  have key : ∀ {i : Nat} {xs : List PyData}, as[i]? = some (.p xs) → ∃ a ys, vs[i]? = some (.ref a) ∧ σ'[i]? = some (some (.ref a)) ∧ en'[i]? = some (some (.p ys)) ∧ (outP as en')[i]? = some (.p ys) := fun {i xs} e => by
    obtain ⟨a, ws, h1, _⟩ := r.liv i xs (live_p (map_get.mpr e))
    have h1' := map_get.mp h1
    have hm : (0 + i, a) ∈ W'.P := by rw [x.P, hP]; exact pars_mem e h1'
    rw [Nat.zero_add] at hm
    obtain ⟨g1, ys, g2⟩ := r'.par _ hm
    refine ⟨a, ys, h1', g1, g2, ?_⟩
    rw [outP_get, e, g2]
    rfl
  have cases3 : ∀ {i : Nat} {s : SV}, (outP as en')[i]? = some s → (∃ y, s = .d y ∧ as[i]? = some (.d y)) ∨ (∃ xs, as[i]? = some (.p xs)) := fun {i s} e => by
    rw [outP_get] at e
    cases ha : as[i]? with
    | none => rw [ha] at e; cases e
    | some b =>
      cases b with
      | d y => rw [ha] at e; cases e; exact .inl ⟨y, rfl, rfl⟩
      | l y => exact absurd ha (noL_get hL)
      | p y => exact .inr ⟨y, rfl⟩
  have lp : ∀ {i : Nat} {xs : List PyData}, live ((outP as en').map some) i = some xs → ∃ a, vs[i]? = some (.ref a) ∧ σ'[i]? = some (some (.ref a)) ∧ live en' i = some xs := fun {i xs} e => by
    have go : ∀ s, (outP as en')[i]? = some s → (s = .l xs ∨ s = .p xs) → ∃ a, vs[i]? = some (.ref a) ∧ σ'[i]? = some (some (.ref a)) ∧ live en' i = some xs := fun s hs h => by
      rcases cases3 hs with ⟨y, rfl, _⟩ | ⟨zs, hz⟩
      · rcases h with h | h <;> cases h
      · obtain ⟨a, ys, h1, h2, h3, h4⟩ := key hz
        rw [h4] at hs
        cases hs
        rcases h with h | h
        · cases h
        · cases h
          exact ⟨a, h1, h2, live_p h3⟩
    rcases live_of_get e with e | e
    · exact go _ (map_get.mp e) (.inl rfl)
    · exact go _ (map_get.mp e) (.inr rfl)
  refine ⟨by have := r.len; simp only [List.length_map] at this ⊢; rw [outP_length]; exact this, r'.subF, r'.subG, r'.dis, fun i y e => ?_, fun i xs e => ?_, fun i j a xs ys e1 e2 f1 f2 => ?_, fun q hq => ?_⟩
  · rcases cases3 (map_get.mp e) with ⟨y', h1, h2⟩ | ⟨xs, h2⟩
    · cases h1
      obtain ⟨v, g1, g2⟩ := r.dat i y (map_get.mpr h2)
      exact ⟨v, g1, dp_mono x.F _ _ g2⟩
    · obtain ⟨a, ys, h1, h3, h4, h5⟩ := key h2
      rw [map_get.mp e] at h5
      cases h5
  · obtain ⟨a, h1, h2, h3⟩ := lp e
    obtain ⟨b, ws, g1, g2⟩ := r'.liv i xs h3
    rw [h2] at g1
    cases g1
    exact ⟨a, ws, map_get.mpr h1, g2⟩
  · obtain ⟨a1, h1, h2, h3⟩ := lp e1
    obtain ⟨a2, k1, k2, k3⟩ := lp e2
    rw [map_get.mp f1] at h1
    cases h1
    rw [map_get.mp f2] at k1
    cases k1
    exact r'.sep i j a xs ys h3 k3 h2 k2
  · rw [x.P, hP] at hq
    obtain ⟨i, xs, h1, h2, h3⟩ := mem_pars hq
    rw [Nat.zero_add] at h1
    obtain ⟨a, ys, g1, g2, g3, g4⟩ := key h2
    rw [h1]
    exact ⟨map_get.mpr h3, ys, map_get.mpr g4⟩
end
section
variable {P : Program} {w : World} {K : PySem.W.Frag} {mg : Str → Option Value} {base : Heap}
/-- a def whose body reads as g keeps g -/
theorem ok_def {x qual : Str} {st : Stmt} {f : Addr} {fd : FuncData} {N ps : List Str} {k : Nat} {g : SF} {n : Nat} (F : Fun K x qual st f fd) (S : FnScope N ps (defScope st)) (hn : N.length = ps.length + n)
    (hbody : ∀ (cdv : Value) (A : Around) (outer : List Env) (s : Shared) (H : Hp) (E : XK), Room k (A.deeper (envOfC qual (defScope st) s.heap.objs.size f cdv)) → (A.deeper (envOfC qual (defScope st) s.heap.objs.size f cdv)).guards = some [] →
      SSs (cxOf CX0 P w K mg base N qual (defScope st) f cdv A outer s H E).nox (defBody st) g) : FnG P w K mg base (k + 1) f fd ps (spF K g ps.length n) := by
  refine Fun.okG F S (fun vs H Q E h => ?_) (fun cdv A outer s H vs Q E hr hg h => ?_)
  · obtain ⟨W, as, y, as', hl, _, _, hR, _⟩ := h
    have := hR.len
    simp only [List.length_map] at this
    omega
  · obtain ⟨W, as, y, as', hl, hP, hL, hR, hf, q⟩ := h
    obtain ⟨t, ht, hs⟩ := (hbody cdv A outer s H E hr hg).run
    refine ⟨t, ht, ?_⟩
    have hlen := hR.len
    simp only [List.length_map] at hlen
    have e0 : start N vs = vs.map some ++ List.replicate n none := by
      unfold start
      rw [show N.length - vs.length = n by omega]
    rw [e0]
    simp only [fcall, Option.bind_eq_some_iff] at hf
    obtain ⟨⟨o, en'⟩, e1, hf⟩ := hf
    refine hs W _ H _ o en' _ (hR.more n) e1 fun W' σ' H' x' R' => ?_
    cases o with
    | rt z =>
      simp only [Option.some.injEq, Prod.mk.injEq] at hf
      obtain ⟨rfl, rfl⟩ := hf
      exact fun v hv => q v W' H' x' (hR.params hP hL x' R') hv
    | nx =>
      simp only [Option.some.injEq, Prod.mk.injEq] at hf
      obtain ⟨rfl, rfl⟩ := hf
      exact q .non W' H' x' (hR.params hP hL x' R') .non
    | bk => cases hf
    | ct => cases hf
end

/-! ### calls -/
def argsOf (en : En) : List RV → Option (List SV)
  | [] => some []
  | .d x :: r => (argsOf en r).bind fun as => some (.d x :: as)
  | .b i :: r => (live en i).bind fun xs => (argsOf en r).bind fun as => some (.p xs :: as)
def bors : List RV → List Nat
  | [] => []
  | .d _ :: r => bors r
  | .b i :: r => i :: bors r
def putBack (en : En) : List RV → List SV → En
  | .b i :: rs, .p ys :: as => putBack (putL en i ys) rs as
  | _ :: rs, _ :: as => putBack en rs as
  | _, _ => en
def fCall (g : SF) (m n : Nat) (dd : List PyData) (f : AF) : EF := fun en => (f en).bind fun p => (argsOf p.2 p.1).bind fun as => if (bors p.1).Nodup ∧ as.length + dd.length = m then
    (fcall g n (as ++ dd.map .d)).bind fun r => some (.d r.1, putBack p.2 p.1 r.2) else none
theorem argsOf_get {en : En} : ∀ {rs : List RV} {as : List SV} {i : Nat} {s : SV}, argsOf en rs = some as → as[i]? = some s → (∃ x, s = .d x ∧ rs[i]? = some (.d x)) ∨ (∃ j xs, s = .p xs ∧ rs[i]? = some (.b j) ∧ live en j = some xs)
  | [], _, i, s, h, e => by cases h; simp at e
  | .d x :: r, as, i, s, h, e => by
    simp only [argsOf, Option.bind_eq_some_iff] at h
    obtain ⟨bs, h1, h⟩ := h
    cases h
    cases i with
    | zero => simp at e; subst e; exact .inl ⟨x, rfl, rfl⟩
    | succ i => simpa using argsOf_get h1 (i := i) (s := s) (by simpa using e)
  | .b j :: r, as, i, s, h, e => by
    simp only [argsOf, Option.bind_eq_some_iff] at h
    obtain ⟨xs, h0, bs, h1, h⟩ := h
    cases h
    cases i with
    | zero => simp at e; subst e; exact .inr ⟨j, xs, rfl, rfl, h0⟩
    | succ i => simpa using argsOf_get h1 (i := i) (s := s) (by simpa using e)
theorem argsOf_len {en : En} : ∀ {rs : List RV} {as : List SV}, argsOf en rs = some as → as.length = rs.length
  | [], _, h => by cases h; rfl
  | .d x :: r, as, h => by
    simp only [argsOf, Option.bind_eq_some_iff] at h
    obtain ⟨bs, h1, h⟩ := h
    cases h
    simp [argsOf_len h1]
  | .b j :: r, as, h => by
    simp only [argsOf, Option.bind_eq_some_iff] at h
    obtain ⟨xs, h0, bs, h1, h⟩ := h
    cases h
    simp [argsOf_len h1]
theorem argsOf_at {en : En} {rs : List RV} {as : List SV} {i j : Nat} (h : argsOf en rs = some as) (e : rs[i]? = some (.b j)) : ∃ xs, as[i]? = some (.p xs) ∧ live en j = some xs := by
  have hi : i < as.length := by rw [argsOf_len h]; exact (List.getElem?_eq_some_iff.mp e).1
  have ha : as[i]? = some as[i] := List.getElem?_eq_getElem hi
  rcases argsOf_get h ha with ⟨x, _, h2⟩ | ⟨k, xs, h1, h2, h3⟩
  · rw [e] at h2; cases h2
  · rw [e] at h2; cases h2
    exact ⟨xs, by rw [ha, h1], h3⟩
theorem argsOf_noL {en : En} : ∀ {rs : List RV} {as : List SV}, argsOf en rs = some as → noL as = true
  | [], _, h => by cases h; rfl
  | .d x :: r, as, h => by
    simp only [argsOf, Option.bind_eq_some_iff] at h
    obtain ⟨bs, h1, h⟩ := h
    cases h
    simpa [noL] using argsOf_noL h1
  | .b j :: r, as, h => by
    simp only [argsOf, Option.bind_eq_some_iff] at h
    obtain ⟨xs, h0, bs, h1, h⟩ := h
    cases h
    simpa [noL] using argsOf_noL h1
theorem mem_bors : ∀ {rs : List RV} {j : Nat}, j ∈ bors rs ↔ ∃ i : Nat, rs[i]? = some (RV.b j)
  | [], j => by simp [bors]
  | .d x :: r, j => by
    simp only [bors]
    rw [mem_bors (rs := r)]
    constructor
    · rintro ⟨i, h⟩; exact ⟨i + 1, by simpa using h⟩
    · rintro ⟨i, h⟩
      cases i with
      | zero => simp at h
      | succ i => exact ⟨i, by simpa using h⟩
  | .b k :: r, j => by
    simp only [bors, List.mem_cons]
    rw [mem_bors (rs := r)]
    constructor
    · rintro (rfl | ⟨i, h⟩)
      · exact ⟨0, rfl⟩
      · exact ⟨i + 1, by simpa using h⟩
    · rintro ⟨i, h⟩
      cases i with
      | zero => simp at h; exact .inl h.symm
      | succ i => exact .inr ⟨i, by simpa using h⟩
theorem bors_inj : ∀ {rs : List RV} {i i' j : Nat}, (bors rs).Nodup → rs[i]? = some (.b j) → rs[i']? = some (.b j) → i = i'
  | [], i, i', j, _, h, _ => by simp at h
  | .d x :: r, i, i', j, nd, h, h' => by
    cases i with
    | zero => simp at h
    | succ i =>
      cases i' with
      | zero => simp at h'
      | succ i' => rw [bors_inj (rs := r) (i := i) (i' := i') (j := j) nd (by simpa using h) (by simpa using h')]
  | .b k :: r, i, i', j, nd, h, h' => by
    have nd' := List.nodup_cons.mp nd
    cases i with
    | zero =>
      cases i' with
      | zero => rfl
      | succ i' =>
        simp at h
        subst h
        exact absurd (mem_bors.mpr ⟨i', by simpa using h'⟩) nd'.1
    | succ i =>
      cases i' with
      | zero =>
        simp at h'
        subst h'
        exact absurd (mem_bors.mpr ⟨i, by simpa using h⟩) nd'.1
      | succ i' => rw [bors_inj (rs := r) (i := i) (i' := i') (j := j) nd'.2 (by simpa using h) (by simpa using h')]
theorem putBack_length : ∀ (rs : List RV) (as : List SV) (en : En), (putBack en rs as).length = en.length
  | [], as, en => by cases as <;> rfl
  | .d x :: rs, [], en => rfl
  | .b x :: rs, [], en => rfl
  | .d x :: rs, a :: as, en => by simp only [putBack]; exact putBack_length rs as en
  | .b i :: rs, .p ys :: as, en => by simp only [putBack]; rw [putBack_length rs as, putL_length]
  | .b i :: rs, .d ys :: as, en => by simp only [putBack]; exact putBack_length rs as en
  | .b i :: rs, .l ys :: as, en => by simp only [putBack]; exact putBack_length rs as en
theorem putBack_ne : ∀ {rs : List RV} {as : List SV} {en : En} {j : Nat}, j ∉ bors rs → (putBack en rs as)[j]? = en[j]?
  | [], as, en, j, _ => by cases as <;> rfl
  | .d x :: rs, [], en, j, _ => rfl
  | .b x :: rs, [], en, j, _ => rfl
  | .d x :: rs, a :: as, en, j, h => by simp only [putBack]; exact putBack_ne (by simpa [bors] using h)
  | .b i :: rs, .p ys :: as, en, j, h => by
    simp only [bors, List.mem_cons, not_or] at h
    simp only [putBack]
    rw [putBack_ne h.2, putL_ne h.1]
  | .b i :: rs, .d ys :: as, en, j, h => by
    simp only [bors, List.mem_cons, not_or] at h
    simp only [putBack]
    exact putBack_ne h.2
  | .b i :: rs, .l ys :: as, en, j, h => by
    simp only [bors, List.mem_cons, not_or] at h
    simp only [putBack]
    exact putBack_ne h.2
theorem putBack_at : ∀ {rs : List RV} {as : List SV} {en : En} {i j : Nat} {xs ys : List PyData}, (bors rs).Nodup → rs[i]? = some (.b j) → as[i]? = some (.p ys) → live en j = some xs → live (putBack en rs as) j = some ys
  | [], as, en, i, j, xs, ys, _, h, _, _ => by simp at h
  | r :: rs, [], en, i, j, xs, ys, _, _, h, _ => by simp at h
  | r :: rs, a :: as, en, i, j, xs, ys, nd, h1, h2, h3 => by
    cases i with
    | zero =>
      simp at h1 h2
      subst h1; subst h2
      have nd' := List.nodup_cons.mp nd
      simp only [putBack]
      rw [live_congr (putBack_ne nd'.1)]
      exact live_putL h3
    | succ i =>
      have h1' : rs[i]? = some (.b j) := by simpa using h1
      have h2' : as[i]? = some (.p ys) := by simpa using h2
      cases r with
      | d x => simp only [putBack]; exact putBack_at (by simpa [bors] using nd) h1' h2' h3
      | b k =>
        have nd' := List.nodup_cons.mp nd
        have hjk : j ≠ k := fun e => nd'.1 (by rw [← e]; exact mem_bors.mpr ⟨i, h1'⟩)
        cases a with
        | p zs => simp only [putBack]; exact putBack_at nd'.2 h1' h2' (by rw [live_putL_ne hjk]; exact h3)
        | d zs => simp only [putBack]; exact putBack_at nd'.2 h1' h2' h3
        | l zs => simp only [putBack]; exact putBack_at nd'.2 h1' h2' h3
theorem putBack_d : ∀ {rs : List RV} {as : List SV} {en : En} {j : Nat} {x : PyData}, (∀ i ∈ bors rs, ∃ xs, live en i = some xs) → (putBack en rs as)[j]? = some (some (.d x)) → en[j]? = some (some (.d x))
  | [], as, en, j, x, _, h => by cases as <;> exact h
  | .d y :: rs, [], en, j, x, _, h => h
  | .b y :: rs, [], en, j, x, _, h => h
  | .d y :: rs, a :: as, en, j, x, hl, h => by simp only [putBack] at h; exact putBack_d (by simpa [bors] using hl) h
  | .b i :: rs, .p ys :: as, en, j, x, hl, h => by
    simp only [putBack] at h
    obtain ⟨zs, hz⟩ := hl i (by simp [bors])
    refine putL_d hz (putBack_d (fun k hk => ?_) h)
    obtain ⟨us, hu⟩ := hl k (by simp [bors, hk])
    by_cases e : k = i
    · subst e; exact ⟨_, live_putL hz⟩
    · exact ⟨us, by rw [live_putL_ne e]; exact hu⟩
  | .b i :: rs, .d ys :: as, en, j, x, hl, h => by
    simp only [putBack] at h
    exact putBack_d (fun k hk => hl k (by simp [bors, hk])) h
  | .b i :: rs, .l ys :: as, en, j, x, hl, h => by
    simp only [putBack] at h
    exact putBack_d (fun k hk => hl k (by simp [bors, hk])) h
theorem putBack_p : ∀ {rs : List RV} {as : List SV} {en : En} {j : Nat} {xs : List PyData}, en[j]? = some (some (.p xs)) → ∃ ys, (putBack en rs as)[j]? = some (some (.p ys))
  | [], as, en, j, xs, h => by cases as <;> exact ⟨xs, h⟩
  | .d y :: rs, [], en, j, xs, h => ⟨xs, h⟩
  | .b y :: rs, [], en, j, xs, h => ⟨xs, h⟩
  | .d y :: rs, a :: as, en, j, xs, h => by simp only [putBack]; exact putBack_p h
  | .b i :: rs, .p ys :: as, en, j, xs, h => by
    simp only [putBack]
    by_cases e : j = i
    · subst e; exact putBack_p (putL_p h)
    · exact putBack_p (by rw [putL_ne e]; exact h)
  | .b i :: rs, .d ys :: as, en, j, xs, h => by simp only [putBack]; exact putBack_p h
  | .b i :: rs, .l ys :: as, en, j, xs, h => by simp only [putBack]; exact putBack_p h
theorem rvals_get {K : PySem.W.Frag} {F : Hp} {σ : St} : ∀ {vs : List V} {rs : List RV} {i : Nat} {r : RV}, RVals K F σ vs rs → rs[i]? = some r → ∃ v, vs[i]? = some v ∧ RVal K F σ v r
  | _, _, i, r, .nil, e => by simp at e
  | _, _, 0, r, .cons h t, e => by simp at e; subst e; exact ⟨_, rfl, h⟩
  | _, _, i + 1, r, .cons h t, e => by
    obtain ⟨v, h1, h2⟩ := rvals_get t (i := i) (r := r) (by simpa using e)
    exact ⟨v, by simpa using h1, h2⟩
theorem rvals_len {K : PySem.W.Frag} {F : Hp} {σ : St} : ∀ {vs : List V} {rs : List RV}, RVals K F σ vs rs → vs.length = rs.length
  | _, _, .nil => rfl
  | _, _, .cons h t => by simp [rvals_len t]
theorem noL_app {as : List SV} (dd : List PyData) (h : noL as = true) : noL (as ++ dd.map .d) = true := by
  induction as with
  | nil => induction dd with
    | nil => rfl
    | cons x r ih => simpa [noL] using ih
  | cons a r ih =>
    cases a with
    | l x => simp [noL] at h
    | d x => simpa [noL] using ih (by simpa [noL] using h)
    | p x => simpa [noL] using ih (by simpa [noL] using h)

section
variable {X : Cx}
/-- f(e, ..): the written arguments, then the defaults dd -/
theorem se_call {k : Nat} {f : Addr} {fd : FuncData} {ps : List Str} {x : Str} {p pos : Pos} {e : Expr} {es : List Expr} {g : SF} {n : Nat} {ff : AF} {dvs : List V} {ds : List Value} {dd : List PyData} (F : FnG X.prog X.w X.K X.mg X.base k f fd ps (spF X.K g ps.length n)) (hr : Room k X.A) (hgd : X.A.guards = some []) (hg : Gl X x)
    (hm : X.mg x = some (.ref f)) (hk : PySem.W.keepIn X.K (.ref f) = true) (hb : Binds X.K fd ps ds) (hd : Vals dvs ds) (hdd : ∀ F : Hp, DqAll X.K F dvs dd) (ha : SA X (e :: es) ff) (hdb : (x == ("__debug__" : Str)) = false := by decide)
    (he : starEach (e :: es) X.env = (false, eval e X.env) :: starEach es X.env := by rfl) (hpl : (backTo pos (starEach es X.env)).any (·.1) = false := by rfl) : SE X (.Call (.Name x p) (e :: es) [] pos) (fCall g ps.length n dd ff) := by
  obtain ⟨t, hp, ht⟩ := ha.run
  refine ⟨_, pe_callG F hr hgd hg hm hk hb hd hp hdb he hpl, fun W σ H en r en' Q hR hf q => ?_⟩
  simp only [fCall, Option.bind_eq_some_iff] at hf
  obtain ⟨⟨rs, en1⟩, e1, as, e2, hf⟩ := hf
  simp only at hf e2
  split at hf
  · rename_i hnd
    obtain ⟨nd, hlen⟩ := hnd
    simp only [Option.bind_eq_some_iff] at hf
    obtain ⟨⟨z, as'⟩, e3, hf⟩ := hf
    simp only [Option.some.injEq, Prod.mk.injEq] at hf
    obtain ⟨rfl, rfl⟩ := hf
    refine ht W σ H en rs en1 _ hR e1 fun vs W1 H1 x1 R1 v1 => ?_
    have hvl := rvals_len v1
    have hal := argsOf_len e2
    have hddl := dpa_length (hdd W1.F)
    -- what the callee may not touch
    let own : Addr → Prop := fun a => ∃ i xs, live en1 i = some xs ∧ σ[i]? = some (some (.ref a)) ∧ i ∉ bors rs
    let G' : Hp := fun a => open Classical in if own a then H1 a else W1.G a
    have gOwn : ∀ a, own a → G' a = H1 a := fun a h => by show (open Classical in if own a then H1 a else W1.G a) = _; rw [if_pos h]
    have gElse : ∀ a, ¬ own a → G' a = W1.G a := fun a h => by show (open Classical in if own a then H1 a else W1.G a) = _; rw [if_neg h]
    have ownH : ∀ a, own a → ∃ vs, H1 a = some (.lst vs) ∧ W1.F a = none ∧ W1.G a = none := fun a ⟨i, xs, h1, h2, _⟩ => by
      obtain ⟨b, ws, g1, g2, g3, g4, g5⟩ := R1.liv i xs h1
      rw [h2] at g1
      cases g1
      exact ⟨ws, g2, g4, g5⟩
    have gG : ∀ a o, W1.G a = some o → G' a = some o := fun a o h => by
      rw [gElse a fun ho => ?_]
      · exact h
      · obtain ⟨_, _, _, g⟩ := ownH a ho
        rw [h] at g; cases g
    have args_get : ∀ {i : Nat} {s : SV}, (as ++ dd.map SV.d)[i]? = some s → (∃ y v, s = .d y ∧ (vs ++ dvs)[i]? = some v ∧ Dq X.K W1.F v y) ∨ (∃ j xs a, s = .p xs ∧ rs[i]? = some (.b j) ∧ live en1 j = some xs ∧ (vs ++ dvs)[i]? = some (.ref a) ∧ σ[j]? = some (some (.ref a))) := fun {i s} h => by
      by_cases hi : i < as.length
      · rw [List.getElem?_append_left hi] at h
        rcases argsOf_get e2 h with ⟨y, rfl, h2⟩ | ⟨j, xs, rfl, h2, h3⟩
        · obtain ⟨v, g1, g2⟩ := rvals_get v1 h2
          exact .inl ⟨y, v, rfl, by rw [List.getElem?_append_left (by omega)]; exact g1, g2⟩
        · obtain ⟨v, g1, g2⟩ := rvals_get v1 h2
          obtain ⟨a, ws, k1, _⟩ := R1.liv j xs h3
          have g2' : σ[j]? = some (some v) := g2
          rw [k1] at g2'
          cases g2'
          exact .inr ⟨j, xs, a, rfl, h2, h3, by rw [List.getElem?_append_left (by omega)]; exact g1, k1⟩
      · rw [List.getElem?_append_right (by omega), List.getElem?_map] at h
        cases hy : dd[i - as.length]? with
        | none => rw [hy] at h; cases h
        | some y =>
          rw [hy] at h
          cases h
          obtain ⟨v, g1, g2⟩ := dpa_get (hdd W1.F) hy
          refine .inl ⟨y, v, rfl, ?_, g2⟩
          rw [List.getElem?_append_right (by omega), hvl, ← hal]
          exact g1
    have notOwn : ∀ {i j : Nat} {xs : List PyData} {a : Addr}, rs[i]? = some (.b j) → live en1 j = some xs → σ[j]? = some (some (.ref a)) → ¬ own a := fun {i j xs a} h1 h2 h3 ⟨i', ys, g1, g2, g3⟩ => by
      have := R1.sep i' j a ys xs g1 h2 g2 h3
      subst this
      exact g3 (mem_bors.mpr ⟨i, h1⟩)
    have lp : ∀ {i : Nat} {xs : List PyData}, live ((as ++ dd.map SV.d).map some) i = some xs → ∃ j a, rs[i]? = some (.b j) ∧ live en1 j = some xs ∧ (vs ++ dvs)[i]? = some (.ref a) ∧ σ[j]? = some (some (.ref a)) := fun {i xs} h => by
      have go : ∀ s, (as ++ dd.map SV.d)[i]? = some s → (s = .l xs ∨ s = .p xs) → ∃ j a, rs[i]? = some (.b j) ∧ live en1 j = some xs ∧ (vs ++ dvs)[i]? = some (.ref a) ∧ σ[j]? = some (some (.ref a)) := fun s hs hc => by
        rcases args_get hs with ⟨y, v, rfl, _⟩ | ⟨j, ys, a, rfl, h1, h2, h3, h4⟩
        · rcases hc with hc | hc <;> cases hc
        · rcases hc with hc | hc
          · cases hc
          · cases hc; exact ⟨j, a, h1, h2, h3, h4⟩
      rcases live_of_get h with h | h
      · exact go _ (map_get.mp h) (.inl rfl)
      · exact go _ (map_get.mp h) (.inr rfl)
    have Rc : R X.K { F := W1.F, G := G', P := parsOf 0 (as ++ dd.map SV.d) (vs ++ dvs) } ((vs ++ dvs).map some) H1 ((as ++ dd.map SV.d).map some) := by
      refine ⟨by simp only [List.length_map, List.length_append]; omega, R1.subF, fun a o h => ?_, fun a o h => ?_, fun i y h => ?_, fun i xs h => ?_, fun i j a xs ys h1 h2 f1 f2 => ?_, fun q hq => ?_⟩
      · by_cases ho : own a
        · have h' : G' a = some o := h
          rw [gOwn a ho] at h'; exact h'
        · have h' : G' a = some o := h
          rw [gElse a ho] at h'; exact R1.subG _ _ h'
      · have hn : ¬ own a := fun ho => by
          obtain ⟨_, _, g, _⟩ := ownH a ho
          rw [show W1.F a = some o from h] at g; cases g
        show G' a = none
        rw [gElse a hn]; exact R1.dis a o h
      · rcases args_get (map_get.mp h) with ⟨y', v, h1, h2, h3⟩ | ⟨j, xs, a, h1, _⟩
        · cases h1; exact ⟨v, map_get.mpr h2, h3⟩
        · cases h1
      · obtain ⟨j, a, h1, h2, h3, h4⟩ := lp h
        obtain ⟨b, ws, g1, g2, g3, g4, g5⟩ := R1.liv j xs h2
        rw [h4] at g1
        cases g1
        exact ⟨a, ws, map_get.mpr h3, g2, g3, g4, by show G' a = none; rw [gElse a (notOwn h1 h2 h4)]; exact g5⟩
      · obtain ⟨u, b, h3, h4, h5, h6⟩ := lp h1
        obtain ⟨u', b', k3, k4, k5, k6⟩ := lp h2
        rw [map_get.mp f1] at h5
        cases h5
        rw [map_get.mp f2] at k5
        cases k5
        have := R1.sep u u' a xs ys h4 k4 h6 k6
        subst this
        exact bors_inj nd h3 k3
      · obtain ⟨i, xs, h1, h2, h3⟩ := mem_pars hq
        rw [Nat.zero_add] at h1
        rw [h1]
        exact ⟨map_get.mpr h3, xs, map_get.mpr h2⟩
    refine ⟨_, as ++ dd.map SV.d, z, as', by simp only [List.length_append, List.length_map]; exact hlen, rfl, noL_app dd (argsOf_noL e2), Rc, e3, fun v W2 H2 x2 R2 hv => ?_⟩
    have eG : W2.G = G' := x2.G
    -- behind the call
    have gNone : ∀ a o, W2.F a = some o → ¬ own a ∧ W1.G a = none := fun a o h => by
      have h1 := R2.dis a o h
      rw [eG] at h1
      by_cases ho : own a
      · obtain ⟨ws, g, _⟩ := ownH a ho
        rw [gOwn a ho, g] at h1; cases h1
      · rw [gElse a ho] at h1; exact ⟨ho, h1⟩
    have kept : ∀ {i : Nat} {xs : List PyData}, live en1 i = some xs → i ∉ bors rs → ∃ a ws, σ[i]? = some (some (.ref a)) ∧ H2 a = some (.lst ws) ∧ DqAll X.K W2.F ws xs ∧ W2.F a = none ∧ W1.G a = none := fun {i xs} h hi => by
      obtain ⟨a, ws, g1, g2, g3, g4, g5⟩ := R1.liv i xs h
      have ho : own a := ⟨i, xs, h, g1, hi⟩
      refine ⟨a, ws, g1, R2.subG _ _ (by rw [eG, gOwn a ho]; exact g2), dpa_mono x2.F _ _ g3, ?_, g5⟩
      cases hF : W2.F a with
      | none => rfl
      | some o => exact absurd ho (gNone a o hF).1
    have as'l : as'.length = (as ++ dd.map SV.d).length := by
      have h1 := Rc.len
      have h2 := R2.len
      simp only [List.length_map] at h1 h2
      omega
    have given : ∀ {i j : Nat} {xs : List PyData}, rs[i]? = some (.b j) → live en1 j = some xs → ∃ a ws ys, as'[i]? = some (.p ys) ∧ σ[j]? = some (some (.ref a)) ∧ H2 a = some (.lst ws) ∧ DqAll X.K W2.F ws ys ∧ W2.F a = none ∧ W1.G a = none := fun {i j xs} h1 h2 => by
      obtain ⟨ys0, g1, g2⟩ := argsOf_at e2 h1
      rw [h2] at g2
      cases g2
      have g1' : (as ++ dd.map SV.d)[i]? = some (.p xs) := by
        rw [List.getElem?_append_left (List.getElem?_eq_some_iff.mp g1).1]; exact g1
      rcases args_get g1' with ⟨_, _, k, _⟩ | ⟨j', xs', a, k1, k2, k3, k4, k5⟩
      · cases k
      · rw [h1] at k2
        cases k2
        have hm : (0 + i, a) ∈ W2.P := by rw [x2.P]; exact pars_mem g1' k4
        rw [Nat.zero_add] at hm
        obtain ⟨m1, ys, m2⟩ := R2.par _ hm
        have m2' := map_get.mp m2
        obtain ⟨b, ws, n1, n2, n3, n4, n5⟩ := R2.liv i ys (live_p m2)
        rw [m1] at n1
        cases n1
        refine ⟨a, ws, ys, m2', k5, n2, n3, n4, ?_⟩
        rw [eG] at n5
        by_cases ho : own a
        · obtain ⟨_, g, _⟩ := ownH a ho
          rw [gOwn a ho, g] at n5; cases n5
        · rw [gElse a ho] at n5; exact n5
    have hbl : ∀ i ∈ bors rs, ∃ xs, live en1 i = some xs := fun j hj => by
      obtain ⟨i, hi⟩ := mem_bors.mp hj
      obtain ⟨xs, _, h⟩ := argsOf_at e2 hi
      exact ⟨xs, h⟩
    have lv : ∀ {i : Nat} {xs : List PyData}, live (putBack en1 rs as') i = some xs → ∃ a ws, σ[i]? = some (some (.ref a)) ∧ H2 a = some (.lst ws) ∧ DqAll X.K W2.F ws xs ∧ W2.F a = none ∧ W1.G a = none ∧ ∃ zs, live en1 i = some zs := fun {i xs} h => by
      by_cases hi : i ∈ bors rs
      · obtain ⟨k, hk⟩ := mem_bors.mp hi
        obtain ⟨zs, hz⟩ := hbl i hi
        obtain ⟨a, ws, ys, g1, g2, g3, g4, g5, g6⟩ := given hk hz
        rw [putBack_at nd hk g1 hz] at h
        cases h
        exact ⟨a, ws, g2, g3, g4, g5, g6, zs, hz⟩
      · rw [live_congr (putBack_ne hi)] at h
        obtain ⟨a, ws, g1, g2, g3, g4, g5⟩ := kept h hi
        exact ⟨a, ws, g1, g2, g3, g4, g5, xs, h⟩
    have Rf : R X.K { F := W2.F, G := W1.G, P := W1.P } σ H2 (putBack en1 rs as') := by
      refine ⟨by rw [putBack_length]; exact R1.len, R2.subF, fun a o h => R2.subG _ _ (by rw [eG]; exact gG a o h), fun a o h => (gNone a o h).2, fun i y h => ?_, fun i xs h => ?_, fun i j a xs ys h1 h2 f1 f2 => ?_, fun q hq => ?_⟩
      · obtain ⟨u, g1, g2⟩ := R1.dat i y (putBack_d hbl h)
        exact ⟨u, g1, dp_mono x2.F _ _ g2⟩
      · obtain ⟨a, ws, g1, g2, g3, g4, g5, _⟩ := lv h
        exact ⟨a, ws, g1, g2, g3, g4, g5⟩
      · obtain ⟨_, _, _, _, _, _, _, zs, g⟩ := lv h1
        obtain ⟨_, _, _, _, _, _, _, zs', g'⟩ := lv h2
        exact R1.sep i j a zs zs' g g' f1 f2
      · obtain ⟨g1, xs, g2⟩ := R1.par q hq
        obtain ⟨ys, g3⟩ := putBack_p (rs := rs) (as := as') g2
        exact ⟨g1, ys, g3⟩
    exact q v { F := W2.F, G := W1.G, P := W1.P } H2 (x1.trans ⟨x2.F, rfl, rfl⟩) Rf hv
  · cases hf
end
end L2.FL
set_option Elab.async false
set_option linter.all false
set_option maxRecDepth 100000
set_option maxHeartbeats 2000000
/-! FL11: the law's end, from its function over data. -/
namespace L2.FL
open PySem PySem.Spec PyProof.Rows L2

/-- the script's heap: nothing, or the script alone -/
inductive Lone (K : PySem.W.Frag) (h : Heap) (a : Addr) (xs : List V) : Hp → Prop
  | own (o : Obj) (hk : K.lookup a = some o) : Lone K h a xs fun _ => none
  | frz (o : Obj) (hk : K.lookup a = none) (ho : h.get? a = some o) (hd : ∀ es ep, o.data ≠ .dict es ep) : Lone K h a xs fun b => if b = a then some (.frz o (.lst xs)) else none
theorem Lone.only {K : PySem.W.Frag} {h : Heap} {a : Addr} {xs : List V} {H : Hp} (L : Lone K h a xs H) {b : Addr} {u : HO} (e : H b = some u) : b = a ∧ K.lookup a = none ∧ ∃ o, h.get? a = some o ∧ u = .frz o (.lst xs) ∧ ∀ es ep, o.data ≠ .dict es ep := by
  cases L with
  | own o hk => cases e
  | frz o hk ho hd =>
    simp only at e
    split at e
    · rename_i hb
      cases e
      exact ⟨hb, hk, o, ho, rfl, hd⟩
    · cases e
/-- a law's call, where the promise is its function over data -/
theorem law_callG {P : Program} {w : World} {K : PySem.W.Frag} {mg mb : Str → Option Value} {k n : Nat} {fa a : Addr} {fd : FuncData} {x : Str} {g : SF} {s₁ : Shared} {vs : List Value} {ns : List Int}
    (KX : K.In s₁.heap) (hns : s₁.heap.Ns mainGlobals mg) (hb : s₁.heap.Ns builtinsNs mb) (hbb : ∀ x : Str, x ≠ "__name__" → mb x = bootBuiltins x) (hlim : s₁.heap.NoLimit) (hg : s₁.gens = #[])
    (ha : s₁.heap.get? a = some { cls := .type "list", data := .seq vs.toArray }) (hi : IntsAre vs ns) (hl : ns.length ≤ sizeLine) (hr : Room k callerA)
    (F : ∀ base : Heap, K.In base → base.Ns mainGlobals mg → FnG P w K mg base k fa fd [x] (spF K g 1 n)) (hbind : ∀ (s : Shared) (u : Value), BindsTo s fd ⟨[u], []⟩ [(x, u)])
    (hf : ∃ r, fcall g n [.d (.list (ns.map .int))] = some (.bool true, r)) :
    codeAny (model P w) callerA (.call (.ref fa) ⟨[.ref a], []⟩) (fun r s' => r = .ok (.ret (.bool true)) ∧ OldK s₁.heap s'.heap ∧ s'.os = s₁.os ∧ AllBare s'.gens) s₁ := by
  have rv := vals_ints hi
  have lenV := hi.length
  obtain ⟨H, hL, hS, hok⟩ : ∃ H, Lone K s₁.heap a (ns.map V.int) H ∧ SqL K H a (ns.map V.int) ∧ HOk P w H s₁.heap := by
    cases hk : K.lookup a with
    | some o =>
      have e := (KX a o hk).symm.trans ha
      cases e
      exact ⟨_, .own _ hk, .inr ⟨_, vs.toArray, _, hk, rfl, rfl, rfl, by rw [List.size_toArray, lenV]; exact hl, by simpa using rv⟩, fun b u z => by cases z⟩
    | none =>
      refine ⟨_, .frz _ hk ha (fun es ep z => by cases z), .inl (.inr ⟨_, if_pos rfl⟩), fun b u z => ?_⟩
      have z' : (if b = a then some (HO.frz { cls := .type "list", data := .seq vs.toArray } (.lst (ns.map V.int))) else none) = some u := z
      split at z'
      · rename_i hb
        cases z'
        subst hb
        exact ⟨ha, by rw [List.length_map]; exact hl, vs, _, rv, ha⟩
      · cases z'
  have keepB : ∀ {b : Addr} {o : Obj}, s₁.heap.get? b = some o → (∀ es ep, o.data ≠ .dict es ep → K.lookup b ≠ none) → (hidT s₁.heap H).get? b = some o := fun {b o} e hd => hidT_get e (by
    cases q : H b with
    | none => rfl
    | some u =>
      obtain ⟨rfl, h1, o', h2, _, h3⟩ := hL.only q
      rw [e] at h2
      cases h2
      exact absurd h1 (hd #[] 0 (h3 _ _)))
  have keepD : ∀ {b : Addr} {o : Obj} {es : Array DictEntry} {ep : Nat}, s₁.heap.get? b = some o → o.data = .dict es ep → (hidT s₁.heap H).get? b = some o := fun {b o es ep} e hd => hidT_get e (by
    cases q : H b with
    | none => rfl
    | some u =>
      obtain ⟨rfl, h1, o', h2, _, h3⟩ := hL.only q
      rw [e] at h2
      cases h2
      exact absurd hd (h3 _ _))
  have nsK : ∀ {b : Addr} {m : Str → Option Value}, s₁.heap.Ns b m → (hidT s₁.heap H).Ns b m := fun {b m} ⟨o, es, ep, e, d, r⟩ => ⟨o, es, ep, keepD e d, d, r⟩
  have hKb : K.In (hidT s₁.heap H) := fun b o e => keepB (KX b o e) fun _ _ _ z => by rw [e] at z; cases z
  have hM : Mod K mg (hidT s₁.heap H) := ⟨hKb, nsK hns, ⟨mb, nsK hb, hbb⟩, hlim.elim fun mc h => ⟨mc, nsK h.1, h.2⟩⟩
  have e0 : Env0 P w K mg (hidT s₁.heap H) callerA [] s₁ H := ⟨rfl, hM, fun b o e => of_hidT e, Nat.le_of_eq (hidT_size _ _), trivial, fun b hb => absurd (show b ∈ ([] : List Addr) from hb) (by simp), hok, .of_eq hg⟩
  obtain ⟨r0, hf⟩ := hf
  have hR : R K { F := H, G := fun _ => none, P := [] } ([V.ref a].map some) H ([SV.d (.list (ns.map .int))].map some) := by
    refine ⟨rfl, Same.refl _, (fun b o z => by cases z), fun b o z => rfl, fun i y e => ?_, fun i xs e => ?_, fun i j b xs ys e => ?_, fun q hq => by cases hq⟩
    · match i with
      | 0 =>
        simp at e
        subst e
        exact ⟨_, rfl, .lst hS (dpa_of_ints ns)⟩
      | i + 1 => simp at e
    · match i with
      | 0 => simp [live] at e
      | i + 1 => simp [live] at e
    · match i with
      | 0 => simp [live] at e
      | i + 1 => simp [live] at e
  have hsp : spF K g 1 n [V.ref a] H (fun v _ => v = .bl true) E0 := ⟨_, [.d (.list (ns.map .int))], .bool true, r0, rfl, rfl, rfl, hR, hf, fun v W' H' _ _ hv => by cases hv; rfl⟩
  refine codeAny_mono ((F _ hKb (nsK hns)).run callerA [] s₁ H ⟨[.ref a], []⟩ [.ref a] [.ref a] _ _ hr rfl e0 (hbind s₁ (.ref a)) (.cons rfl .nil) hsp) fun r s' h => ?_
  match r, h with
  | .ok (.ret u), ⟨v, H', os, bare, un, hok', r', q⟩ =>
    have q' : v = .bl true := q
    subst q'
    obtain rfl : u = Value.bool true := r'
    refine ⟨rfl, OldK.of_keep fun b o e => ?_, os, bare⟩
    cases q : H b with
    | none => exact un.keep b o e q (by intro z; exact absurd (show b ∈ ([] : List Addr) from z) (by simp)) (by simp)
    | some u =>
      obtain ⟨_, _, ob, _, rfl, _⟩ := hL.only q
      have w1 := (hok b _ q).1
      have w2 := (hok' b _ (un.frzs b ob _ q)).1
      rw [w1] at e
      cases e
      exact w2
/-- the goal that k_head leaves, from the law's function over data -/
theorem walk_ofG {l : PySem.W.OpenLaw} {n k m : Nat} {q : Program} {loose : List Str} {XP : (Str → Option Value) → Heap → Prop} {YP : World → Heap → Prop} {d : DefRec} {K : Params → PySem.W.Frag} {g : SF} {x : Str}
    (hn : l.most = some n) (hn2 : n ≤ sizeLine) (hdf : d.params.defaults = []) (hr : Room k callerA)
    (hY : ∀ (w : World) (h : Heap), YP w h → (K w.params).In h)
    (F : ∀ (w : World) (mg : Str → Option Value) (fa : Addr) (h : Heap), (K w.params).In h → h.Ns mainGlobals mg → mg d.name = some (.ref fa) →
      ∃ fd : FuncData, (∀ (s : Shared) (u : Value), BindsTo s fd ⟨[u], []⟩ [(x, u)]) ∧
        ∀ base : Heap, (K w.params).In base → base.Ns mainGlobals mg → FnG l.prog w (K w.params) mg base k fa fd [x] (spF (K w.params) g 1 m))
    (hf : ∀ ns : List Int, ns.length ≤ n → ∃ r, fcall g m [.d (.list (ns.map .int))] = some (.bool true, r)) :
    PySem.W.WalkO q loose XP YP l.row.toRowW d [] (fun f vs => PySem.call f vs) := by
  refine Att.attach_call hn hdf fun w s₀ s₁ mg mb fa o pm cd doc a vs ns G Y ho hd hcd hmg hobj hints hlen hg => ?_
  have KX := hY w _ Y
  obtain ⟨fd, hb, hF⟩ := F w mg fa _ KX G.T.g hmg
  exact law_callG KX G.T.g G.T.b G.T.builtins G.T.nolimit hg hobj hints (Nat.le_trans hlen hn2) hr hF hb (hf ns hlen)
end L2.FL
set_option Elab.async false
set_option linter.all false
set_option maxRecDepth 100000
set_option maxHeartbeats 2000000
/-! FL12: enumerate, zip over data. -/
namespace PySem
open Sem (wp)
set_option maxHeartbeats 4000000 in
theorem fl_enum1B {v : Value} {o : Obj} {H : Heap → Prop} (B : Begins v o H) :
    Meets (Builtin.«enumerate.__new__» ⟨[.type "enumerate", v], []⟩) (fun _ R s => H s.heap ∧
      R (.ok (.ret (.ref (s.heap.push o).objs.size))) { s with heap := (s.heap.push o).push { cls := .type "enumerate", data := .fields #[.none, .bool false, .ref s.heap.objs.size, rawInt 0, .none, .none] } }) :=
  .of_wp fun prog w A R s h => by
    obtain ⟨hp, g, d, tk, os⟩ := s
    obtain ⟨h1, h⟩ := h
    have hsub := sub_enumerate
    have q1 : ∀ {A' : Around} {E : Value → Shared → Prop} {Q : Value → Shared → Prop}, Q (.ref hp.objs.size) ⟨hp.push o, g, d, tk, os⟩ → wpAny (model prog w) A' (pyIter v) Q E ⟨hp, g, d, tk, os⟩ :=
      fun q => B.iter prog w _ _ ⟨hp, g, d, tk, os⟩ _ h1 q
    wp_walk using q1
    refine wpAny_stack_any fun st => wpAny_pure ?_
    split
    · rename_i c _ _ _ _ _
      cases (c == Value.type "enumerate")
      · wp_walk using q1
        exact ⟨_, rfl, h⟩
      · wp_walk using q1
        exact ⟨_, rfl, h⟩
    · wp_walk using q1
      exact ⟨_, rfl, h⟩
section
variable {prog : Program} {w : World} {A : Around} {E : Value → Shared → Prop} {s : Shared}
theorem fl_enum_begins {v : Value} {o : Obj} {H : Heap → Prop} {Q : Value → Shared → Prop} (B : Begins v o H) (h1 : H s.heap)
    (h : ∀ h', IsEnum h' (s.heap.objs.size + 1) s.heap.objs.size 0 .none → h'.get? s.heap.objs.size = some o → (∀ b o, s.heap.get? b = some o → h'.get? b = some o) → Q (.ref (s.heap.objs.size + 1)) { s with heap := h' }) :
    wpAny (model prog w) A (call (.type "enumerate") [v]) Q E s := by
  refine callType_new F.called_enumerate (by decide) (F.typeCall_enumerate_1 _) (F.newCall_enumerate_1 _) (fun obj => F.args_object_init_2 obj _) F.entry_enumerate_new (fl_enum1B B) ⟨h1, ?_⟩
  have hz : (s.heap.push o).objs.size = s.heap.objs.size + 1 := Heap.size_push ..
  show _ ∧ _
  rw [hz]
  have he : IsEnum ((s.heap.push o).push { cls := .type "enumerate", data := .fields #[.none, .bool false, .ref s.heap.objs.size, rawInt 0, .none, .none] }) (s.heap.objs.size + 1) s.heap.objs.size 0 .none := by
    have q := Heap.get?_push_size (s.heap.push o) (o := { cls := .type "enumerate", data := .fields #[.none, .bool false, .ref s.heap.objs.size, rawInt 0, .none, .none] }) rfl
    rw [hz] at q
    exact q
  exact ⟨⟨_, he, rfl⟩, h _ he (Heap.get?_push_of_some _ (Heap.get?_push_size _ B.free)) fun b o x => Heap.get?_push_of_some _ (Heap.get?_push_of_some _ x)⟩
end
end PySem
namespace L2.FL
open PySem PySem.Spec PyProof.Rows L2

/-! ### enumerate over a tuple -/
def IteS (K : PySem.W.Frag) (a : Addr) : It :=
  ⟨fun i H => ∃ (xs : List V) (x : V), SqT K H a xs ∧ xs[i]? = some x, fun i H v H' => ∃ T x, v = .ref T ∧ H T = none ∧ H' = upd H T (.tup [.int (i : Nat), x]) ∧ ∀ xs, SqT K H a xs → xs[i]? = some x, fun i H => ∃ xs : List V, SqT K H a xs ∧ xs.length ≤ i⟩
theorem turn_enumT {P : Program} {w : World} {K : PySem.W.Frag} {elts : List Expr} {kk : Nat} {tpos : Pos} (a e it : Addr) :
    Turn P w K (.Tuple elts kk tpos) (IteS K a) [e, it] e (fun i h => (∃ old, IsEnum h e it ((i : Nat) : Int) old) ∧ h.IsTupleIter it a i ∧ e ≠ it) where
  mem := by simp
  obj := fun i h st b hb => by
    obtain ⟨⟨old, he⟩, ⟨o, ho, hc, hd⟩, _⟩ := st
    rcases List.mem_cons.mp hb with rfl | hb
    · exact ⟨_, he, fun v q => nomatch q⟩
    · rw [List.mem_singleton.mp hb]
      exact ⟨o, ho, fun v q => by rw [hd] at q; cases q⟩
  keep := fun i h h' st k => st.elim fun ⟨old, he⟩ r => ⟨⟨old, k e (by simp) _ he⟩, r.1.at fun o q => k it (by simp) o q, r.2⟩
  item := by
    intro X hP hw hK hc i pins s σ H E I hf st hg
    subst hP hw hK
    obtain ⟨⟨old, he⟩, hit, hne⟩ := st
    obtain ⟨xs, x, hq, hx⟩ := hg
    obtain ⟨its, rv, p, hz⟩ := I.tuple hq
    obtain ⟨u, hu, ru⟩ := rv.get hx
    have p' : s.heap.IsTuple a its.toArray := p
    have hel : e < s.heap.objs.size := Heap.lt_size he
    have hil : it < s.heap.objs.size := by obtain ⟨_, q, _⟩ := hit; exact Heap.lt_size q
    have hat : a ≠ it := fun z => by
      subst z
      obtain ⟨o1, q1, c1, _⟩ := hit
      obtain ⟨o2, q2, c2, _⟩ := p'
      rw [q1] at q2
      cases q2
      rw [c1] at c2
      exact absurd c2 (by decide)
    have hae : e ≠ a := fun z => by
      subst z
      obtain ⟨o2, q2, c2, _⟩ := p'
      rw [he] at q2
      cases q2
      exact absurd (show Value.type "enumerate" = Value.type "tuple" from c2) (by decide)
    have hlt : i < its.toArray.size := by
      have := (List.getElem?_eq_some_iff.mp hu).1
      simpa using this
    refine wpAny_pyNext_enum_itemD (Draws.tuple (A := X.A.in1) (show X.A.in1.handled = none from I.ok.hd hc) it a hat its.toArray) he ⟨hit, p'⟩ hlt hne (by simp [hne, hae]) fun x' h' tk hP ho hs' hT hsz hk => ?_
    have ex : x' = u := by
      have h2 : its.toArray[i]? = some u := by simpa using hu
      rw [h2] at hP
      cases hP
      rfl
    subst ex
    refine ⟨_, rfl, wpAny_letOwnedTupleGo_enum (s := { s with heap := h', toks := tk + 1 }) ho fun h'' he' sb => ?_⟩
    have hT2 : h''.get? s.heap.objs.size = some { cls := .type "tuple", data := .seq #[.int i tk, x'] } := (sb.2 _ (Nat.ne_of_gt hel)).trans hT
    have new : ObjOk X.prog X.w (upd H s.heap.objs.size (.tup [.int (i : Nat), x])) h'' s.heap.objs.size (.tup [.int (i : Nat), x]) :=
      ⟨by show 2 ≤ sizeLine; decide, [.int i tk, x'], .cons ⟨_, rfl⟩ (.cons ru .nil), ⟨_, hT2, rfl, _, rfl⟩⟩
    have I1 : Inv X pins σ (upd H s.heap.objs.size (.tup [.int (i : Nat), x])) { s with heap := h'', toks := tk + 1 } :=
      I.turnedNew (ch := [e, it]) (fun b ob hb q => (sb.2 b (fun z => hb (by simp [z]))).trans (hk b ob (fun z => hb (by simp [z])) (fun z => hb (by simp [z])) q)) hf (Nat.le_refl _) new
    refine ⟨.ref s.heap.objs.size, _, I1, rfl, ⟨_, x, rfl, I.hok.fresh (Nat.le_refl _), rfl, fun ys hy => by rw [I.tuple_inj hy hq]; exact hx⟩, ⟨⟨x', ?_⟩, hs'.1.at fun o q => (sb.2 it (Ne.symm hne)).trans q, hne⟩, fun b hb => ?_⟩
    · rw [show ((i + 1 : Nat) : Int) = (i : Int) + 1 by omega]
      exact he'
    · have hb' : b < s.heap.objs.size := by
        rcases List.mem_cons.mp hb with rfl | hb
        · exact hel
        · rw [List.mem_singleton.mp hb]; exact hil
      rw [upd_ne (Nat.ne_of_lt hb')]
      exact (hf b hb).1
  done := by
    intro X hP hw hK hc i pins s σ H E I hf st hg
    subst hP hw hK
    obtain ⟨⟨old, he⟩, hit, hne⟩ := st
    obtain ⟨xs, hq, hx⟩ := hg
    obtain ⟨its, rv, p, hz⟩ := I.tuple hq
    have p' : s.heap.IsTuple a its.toArray := p
    obtain ⟨f0, f1, f2, f3, f4, f5⟩ := hf it (by simp)
    have hl := rv.length
    unfold pyNext
    have hT : s.TypeIs (.ref e) "enumerate" := ⟨_, he, rfl⟩
    refine wpAny_bind (wpAny_attempt (wpAny_callSpecial?_slot (name := Str.ofString "__next__") hT F.slot_enumerate_next (wpAny_call_entry F.slot_enumerate_next hT F.entry_enumerate_next ?_ (F.args_enumerate_next_1 _))))
    show wpAny _ _ (field (.ref e) 2 >>= _) _ _ _
    refine wpAny_bind (wpAny_field he rfl (x := .ref it) rfl ?_)
    refine wpAny_bind (wpAny_nextOf_tuple_end (show X.A.in1.handled = none from I.ok.hd hc) hit p' (by simp; omega) fun h' x he' hx' => ?_)
    obtain ⟨o, ho, hc'⟩ := hx'
    refine wpAny_bind (wpAny_isInstance (T := "StopIteration") (b := true) ⟨o, ho, hc'⟩ isSubtype_stop ?_)
    exact wpAny_pure ⟨rfl, I.turned (t' := s.toks) (fun b o hb q => he' b o hb q) f0 f1 f3 f4 f5⟩
  self := fun A i s Q E st h => st.elim fun ⟨_, he⟩ _ => wpAny_pyIter_enum he h
def iEnumA (K : PySem.W.Frag) (ta : TA) : TI := fun σ H R => ta σ H fun vs H1 => ∃ a xs, vs = [.ref a] ∧ ((SqL K H1 a xs ∧ R (Ite K a) H1) ∨ (SqT K H1 a xs ∧ R (IteS K a) H1))
theorem pi_enumA {X : Cx} {e : Expr} {ta : TA} {p pos tpos : Pos} {elts : List Expr} {kk : Nat} (hg : Gl X "enumerate") (hm : X.mg "enumerate" = none) (ha : PA X [e] ta) (hs : starEach [e] X.env = [(false, eval e X.env)] := by rfl) :
    PI X (.Tuple elts kk tpos) (.Call (.Name "enumerate" p) [e] [] pos) (iEnumA X.K ta) := by
  refine ⟨fun pins s σ H R I h => ?_⟩
  refine Call_ (ld_blt I hg hm boot_enumerate (PyProof.Rows.callWith_type1 (thn (ha.run pos pins s σ H _ I h) fun us s1 ⟨vs, H1, I1, r1, q1⟩ => ?_) hs rfl))
  obtain ⟨a, xs, ex, q1⟩ := q1
  subst ex
  cases r1 with
  | cons r rr =>
    cases rr
    cases r
    have fresh2 : ∀ b, b ∈ [s1.heap.objs.size + 1, s1.heap.objs.size] → FpOk X pins H1 b := fun b hb => by
      have hle : s1.heap.objs.size ≤ b := by
        rcases List.mem_cons.mp hb with rfl | hb
        · exact Nat.le_add_right _ _
        · rw [List.mem_singleton.mp hb]; exact Nat.le_refl _
      exact I1.fpOk hle (I1.hok.fresh hle)
    rcases q1 with ⟨hq, q⟩ | ⟨hq, q⟩
    · obtain ⟨its, rv, p', hz⟩ := I1.list hq
      refine call_enumerate_list p'.isList fun h' he hit hsz hk => wpAny_pyIter_enum he ?_
      exact ⟨s1.heap.objs.size + 1, [s1.heap.objs.size + 1, s1.heap.objs.size], _, _, H1, rfl, I1.kept (t' := s1.toks) hk, turn_enum a (s1.heap.objs.size + 1) s1.heap.objs.size, ⟨⟨.none, he⟩, hit, Nat.succ_ne_self _⟩, fresh2, q⟩
    · obtain ⟨its, rv, p', hz⟩ := I1.tuple hq
      refine fl_enum_begins (begins_tuple a its.toArray) p' fun h' he hit hk => wpAny_pyIter_enum he ?_
      exact ⟨s1.heap.objs.size + 1, [s1.heap.objs.size + 1, s1.heap.objs.size], _, _, H1, rfl, I1.kept (t' := s1.toks) hk, turn_enumT a (s1.heap.objs.size + 1) s1.heap.objs.size, ⟨⟨.none, he⟩, ⟨_, hit, rfl, rfl⟩, Nat.succ_ne_self _⟩, fresh2, q⟩

/-- the items, counted from k -/
def enumD : Nat → List PyData → List PyData
  | _, [] => []
  | k, x :: r => .tuple [.int (k : Nat), x] :: enumD (k + 1) r
theorem enumD_length : ∀ (xs : List PyData) (k : Nat), (enumD k xs).length = xs.length
  | [], _ => rfl
  | x :: r, k => by simp [enumD, enumD_length r]
theorem enumD_get : ∀ (xs : List PyData) (k i : Nat), (enumD k xs)[i]? = (xs[i]?).map fun x => .tuple [.int ((k + i : Nat) : Int), x]
  | [], k, i => by simp [enumD]
  | x :: r, k, 0 => by simp [enumD]
  | x :: r, k, i + 1 => by
    simp only [enumD, List.getElem?_cons_succ]
    rw [enumD_get r (k + 1) i, show k + 1 + i = k + (i + 1) by omega]
def zipD : List PyData → List PyData → List PyData
  | x :: r, y :: t => .tuple [x, y] :: zipD r t
  | _, _ => []
theorem zipD_length : ∀ (xs ys : List PyData), (zipD xs ys).length = min xs.length ys.length
  | [], ys => by simp [zipD]
  | x :: r, [] => by simp [zipD]
  | x :: r, y :: t => by
    simp only [zipD, List.length_cons, zipD_length r t]
    omega
theorem zipD_get : ∀ (xs ys : List PyData) (i : Nat) (z : PyData), (zipD xs ys)[i]? = some z → ∃ x y, xs[i]? = some x ∧ ys[i]? = some y ∧ z = .tuple [x, y]
  | [], ys, i, z, h => by simp [zipD] at h
  | x :: r, [], i, z, h => by simp [zipD] at h
  | x :: r, y :: t, 0, z, h => by
    simp [zipD] at h
    exact ⟨x, y, rfl, rfl, h.symm⟩
  | x :: r, y :: t, i + 1, z, h => by
    obtain ⟨a, b, h1, h2, h3⟩ := zipD_get r t i z (by simpa [zipD] using h)
    exact ⟨a, b, by simpa using h1, by simpa using h2, h3⟩
theorem pair_new {K : PySem.W.Frag} {W : Wd} {σ : St} {H : Hp} {en : En} {T : Addr} {u v : V} {x y : PyData} (r : R K W σ H en) (hT : H T = none) (h1 : Dq K W.F u x) (h2 : Dq K W.F v y) :
    ∃ W', Ext W W' ∧ R K W' σ (upd H T (.tup [u, v])) en ∧ Dq K W'.F (.ref T) (.tuple [x, y]) :=
  ⟨_, ext_new r _ (r.freshF hT), r.alloc _ hT, tup_new r.subF hT (.cons h1 (.cons h2 .nil))⟩
theorem walk_enumL {K : PySem.W.Frag} {F : Hp} {a : Addr} {vs : List V} {xs : List PyData} (h : SqL K F a vs) (hd : DqAll K F vs xs) : WalkD K (Ite K a) F (enumD 0 xs) := by
  have rd : ∀ (W : Wd) (σ : St) (H : Hp) (en : En), Same F W.F → R K W σ H en → SqL K H a vs := fun W σ H en s r => same_rd (s.trans r.subF) h
  refine ⟨fun W σ H en s r => ⟨vs, rd W σ H en s r, by rw [dpa_length hd, enumD_length]; exact Nat.le_refl _⟩, fun i z e W σ H en s r => ?_⟩
  rw [enumD_get] at e
  obtain ⟨x, ex, rfl⟩ := Option.map_eq_some_iff.mp e
  obtain ⟨v, e1, e2⟩ := dpa_get hd ex
  refine ⟨⟨vs, v, rd W σ H en s r, e1⟩, fun u H' y => ?_⟩
  obtain ⟨T, x', rfl, hT, rfl, y⟩ := y
  have e3 := y vs (rd W σ _ en s r)
  rw [e1] at e3
  cases e3
  rw [Nat.zero_add]
  exact pair_new r hT (.int _) (dp_mono s _ _ e2)
theorem walk_enumT {K : PySem.W.Frag} {F : Hp} {a : Addr} {vs : List V} {xs : List PyData} (h : SqT K F a vs) (hd : DqAll K F vs xs) : WalkD K (IteS K a) F (enumD 0 xs) := by
  have rd : ∀ (W : Wd) (σ : St) (H : Hp) (en : En), Same F W.F → R K W σ H en → SqT K H a vs := fun W σ H en s r => same_sqt (s.trans r.subF) h
  refine ⟨fun W σ H en s r => ⟨vs, rd W σ H en s r, by rw [dpa_length hd, enumD_length]; exact Nat.le_refl _⟩, fun i z e W σ H en s r => ?_⟩
  rw [enumD_get] at e
  obtain ⟨x, ex, rfl⟩ := Option.map_eq_some_iff.mp e
  obtain ⟨v, e1, e2⟩ := dpa_get hd ex
  refine ⟨⟨vs, v, rd W σ H en s r, e1⟩, fun u H' y => ?_⟩
  obtain ⟨T, x', rfl, hT, rfl, y⟩ := y
  have e3 := y vs (rd W σ _ en s r)
  rw [e1] at e3
  cases e3
  rw [Nat.zero_add]
  exact pair_new r hT (.int _) (dp_mono s _ _ e2)
theorem walk_zipL {K : PySem.W.Frag} {F : Hp} {a b : Addr} {vs ws : List V} {xs ys : List PyData} (h : SqL K F a vs) (hd : DqAll K F vs xs) (h' : SqL K F b ws) (hd' : DqAll K F ws ys) : WalkD K (Itz K a b) F (zipD xs ys) := by
  have rd : ∀ (W : Wd) (σ : St) (H : Hp) (en : En), Same F W.F → R K W σ H en → SqL K H a vs ∧ SqL K H b ws := fun W σ H en s r => ⟨same_rd (s.trans r.subF) h, same_rd (s.trans r.subF) h'⟩
  refine ⟨fun W σ H en s r => ⟨vs, ws, (rd W σ H en s r).1, (rd W σ H en s r).2, by rw [dpa_length hd, dpa_length hd', zipD_length]; omega⟩, fun i z e W σ H en s r => ?_⟩
  obtain ⟨x, y, ex, ey, rfl⟩ := zipD_get _ _ _ _ e
  obtain ⟨v, e1, e2⟩ := dpa_get hd ex
  obtain ⟨w, f1, f2⟩ := dpa_get hd' ey
  refine ⟨⟨vs, ws, v, w, (rd W σ H en s r).1, (rd W σ H en s r).2, e1, f1⟩, fun u H' q => ?_⟩
  obtain ⟨T, x', y', rfl, hT, rfl, q1, q2⟩ := q
  have e3 := q1 vs (rd W σ _ en s r).1
  have f3 := q2 ws (rd W σ _ en s r).2
  rw [e1] at e3
  cases e3
  rw [f1] at f3
  cases f3
  exact pair_new r hT (dp_mono s _ _ e2) (dp_mono s _ _ f2)
theorem walk_zipT {K : PySem.W.Frag} {F : Hp} {a b : Addr} {vs ws : List V} {xs ys : List PyData} (h : SqT K F a vs) (hd : DqAll K F vs xs) (h' : SqT K F b ws) (hd' : DqAll K F ws ys) : WalkD K (RZ.ItzT K a b) F (zipD xs ys) := by
  have rd : ∀ (W : Wd) (σ : St) (H : Hp) (en : En), Same F W.F → R K W σ H en → SqT K H a vs ∧ SqT K H b ws := fun W σ H en s r => ⟨same_sqt (s.trans r.subF) h, same_sqt (s.trans r.subF) h'⟩
  refine ⟨fun W σ H en s r => ⟨vs, ws, (rd W σ H en s r).1, (rd W σ H en s r).2, by rw [dpa_length hd, dpa_length hd', zipD_length]; omega⟩, fun i z e W σ H en s r => ?_⟩
  obtain ⟨x, y, ex, ey, rfl⟩ := zipD_get _ _ _ _ e
  obtain ⟨v, e1, e2⟩ := dpa_get hd ex
  obtain ⟨w, f1, f2⟩ := dpa_get hd' ey
  refine ⟨⟨vs, ws, v, w, (rd W σ H en s r).1, (rd W σ H en s r).2, e1, f1⟩, fun u H' q => ?_⟩
  obtain ⟨T, x', y', rfl, hT, rfl, q1, q2⟩ := q
  have e3 := q1 vs (rd W σ _ en s r).1
  have f3 := q2 ws (rd W σ _ en s r).2
  rw [e1] at e3
  cases e3
  rw [f1] at f3
  cases f3
  exact pair_new r hT (dp_mono s _ _ e2) (dp_mono s _ _ f2)
def itLT : RV → Option (Bool × List PyData)
  | .d (.list xs) => some (false, xs)
  | .d (.tuple xs) => some (true, xs)
  | _ => none
theorem itLT_l {r : RV} {xs : List PyData} (h : itLT r = some (false, xs)) : r = .d (.list xs) := by
  unfold itLT at h
  split at h <;> cases h
  rfl
theorem itLT_t {r : RV} {xs : List PyData} (h : itLT r = some (true, xs)) : r = .d (.tuple xs) := by
  unfold itLT at h
  split at h <;> cases h
  rfl
def fEnum (f : EF) : IF := fun en => (f en).bind fun p => (itLT p.1).bind fun q => some (enumD 0 q.2, p.2)
def fZip (f g : EF) : IF := fun en => (f en).bind fun p => (g p.2).bind fun q => (itLT p.1).bind fun a => (itLT q.1).bind fun b => if a.1 = b.1 then some (zipD a.2 b.2, q.2) else none
section
variable {X : Cx} {e e2 : Expr} {p pos tpos : Pos} {elts : List Expr} {kk : Nat} {f g : EF}
theorem si_enum (hg : Gl X "enumerate") (hm : X.mg "enumerate" = none) (ha : SE X e f) (hs : starEach [e] X.env = [(false, eval e X.env)] := by rfl) (hs' : starEach [e] X.env = (false, eval e X.env) :: starEach [] X.env := by rfl) :
    SI X (.Tuple elts kk tpos) (.Call (.Name "enumerate" p) [e] [] pos) (fEnum f) := by
  obtain ⟨t, hp, ht⟩ := ha.run
  refine ⟨_, pi_enumA hg hm (pa_cons hp pa_nil hs') hs, fun W σ H en xs en' Q hR hf q => ?_⟩
  simp only [fEnum, Option.bind_eq_some_iff] at hf
  obtain ⟨⟨c, en1⟩, e1, ⟨b, ys⟩, e2, hf⟩ := hf
  cases hf
  cases b with
  | false =>
    cases itLT_l e2
    refine ht W σ H en _ _ _ hR e1 fun v W1 H1 x1 R1 v1 => ?_
    have v1' : Dq X.K W1.F v (.list ys) := v1
    cases v1' with
    | lst h1 h2 => exact ⟨_, _, rfl, .inl ⟨same_rd R1.subF h1, q _ W1 H1 x1 R1 (walk_enumL h1 h2)⟩⟩
  | true =>
    cases itLT_t e2
    refine ht W σ H en _ _ _ hR e1 fun v W1 H1 x1 R1 v1 => ?_
    have v1' : Dq X.K W1.F v (.tuple ys) := v1
    cases v1' with
    | tup h1 h2 => exact ⟨_, _, rfl, .inr ⟨same_sqt R1.subF h1, q _ W1 H1 x1 R1 (walk_enumT h1 h2)⟩⟩
theorem si_zip (hg : Gl X "zip") (hm : X.mg "zip" = none) (ha : SE X e f) (hb : SE X e2 g) (hs : starEach [e, e2] X.env = (false, eval e X.env) :: starEach [e2] X.env := by rfl) (hs' : starEach [e2] X.env = (false, eval e2 X.env) :: starEach [] X.env := by rfl)
    (hpl : (backTo pos (starEach [e2] X.env)).any (·.1) = false := by rfl) : SI X (.Tuple elts kk tpos) (.Call (.Name "zip" p) [e, e2] [] pos) (fZip f g) := by
  obtain ⟨t, hp, ht⟩ := ha.run
  obtain ⟨u, hq, hu⟩ := hb.run
  refine ⟨_, RZ.pi_zipA hg hm (pa_cons hp (pa_cons hq pa_nil hs') hs) hs hpl, fun W σ H en xs en' Q hR hf q => ?_⟩
  simp only [fZip, Option.bind_eq_some_iff] at hf
  obtain ⟨⟨c, en1⟩, e1, ⟨c2, en2⟩, e2, ⟨b, ys⟩, e3, ⟨b2, zs⟩, e4, hf⟩ := hf
  split at hf
  · rename_i hb
    cases hf
    have hb' : b = b2 := hb
    subst hb'
    refine ht W σ H en _ _ _ hR e1 fun v W1 H1 x1 R1 v1 => ?_
    refine hu W1 σ H1 _ _ _ _ R1 e2 fun w W2 H2 x2 R2' w2 => ?_
    have v2 := v1.mono x2.F
    cases b with
    | false =>
      cases itLT_l e3
      cases itLT_l e4
      have v1' : Dq X.K W2.F v (.list ys) := v2
      have w1' : Dq X.K W2.F w (.list zs) := w2
      cases v1' with
      | lst h1 h2 =>
        cases w1' with
        | lst h3 h4 => exact ⟨_, _, _, _, rfl, .inl ⟨same_rd R2'.subF h1, same_rd R2'.subF h3, q _ W2 H2 (x1.trans x2) R2' (walk_zipL h1 h2 h3 h4)⟩⟩
    | true =>
      cases itLT_t e3
      cases itLT_t e4
      have v1' : Dq X.K W2.F v (.tuple ys) := v2
      have w1' : Dq X.K W2.F w (.tuple zs) := w2
      cases v1' with
      | tup h1 h2 =>
        cases w1' with
        | tup h3 h4 => exact ⟨_, _, _, _, rfl, .inr ⟨same_sqt R2'.subF h1, same_sqt R2'.subF h3, q _ W2 H2 (x1.trans x2) R2' (walk_zipT h1 h2 h3 h4)⟩⟩
  · cases hf
end
end L2.FL
set_option Elab.async false
set_option linter.all false
set_option maxRecDepth 100000
set_option maxHeartbeats 2000000
/-! FL13: comprehensions of two clauses. -/
namespace L2.FL
open PySem PySem.Spec PyProof.Rows L2

section
variable {K : PySem.W.Frag} {σ : St}
/-- behind a block: its new list D is nobody's -/
theorem R.endBlk {W1 W2 : Wd} {H1 H3 : Hp} {en1 en2 : En} {vs : List Nat} {D : Addr} {o : HO} (R1 : R K W1 σ H1 en1) (x2 : Ext W1 W2) (hGD : W1.G D = none) (R3 : R K { W2 with G := upd W1.G D o } (wipe σ vs) H3 en2)
    (hpl : ∀ v ∈ vs, plainAt en1 v = true) (hno : ∀ v ∈ vs, ∀ s, en2[v]? ≠ some (some s)) :
    R K { W2 with G := W1.G } σ H3 (backE en1 en2 vs) ∧ H3 D = some o ∧ W2.F D = none ∧ Unowned σ (backE en1 en2 vs) D := by
  obtain ⟨r1, h1, h2, h3⟩ := R.pop hGD R3
  have x12 : Ext W1 { W2 with G := W1.G } := ⟨x2.F, rfl, x2.P⟩
  have rb := R1.back x12 r1 hpl hno
  refine ⟨rb, h1, h2, fun j zs hj hq => ?_⟩
  by_cases hm : j ∈ vs
  · have hp := hpl j hm
    unfold plainAt at hp
    rcases live_of_get hj with z | z
    all_goals
      rw [backE_get, if_pos hm] at z
      split at z
      · cases q2 : en1[j]? with
        | none => rw [q2] at z; cases z
        | some w =>
          rw [q2] at z
          cases z
          rw [q2] at hp
          cases hp
      · cases z
  · rw [live_congr (show (backE en1 en2 vs)[j]? = en2[j]? by rw [backE_get, if_neg hm])] at hj
    exact h3 j zs hj (by rw [wipe_get, if_neg hm]; exact hq)
theorem wipe_wipe (σ : St) {vs vs1 : List Nat} (h : ∀ i ∈ vs1, i ∈ vs) : wipe (wipe σ vs1) vs = wipe σ vs := by
  apply List.ext_getElem?
  intro i
  rw [wipe_get, wipe_get, wipe_get, wipe_length]
  by_cases hi : i ∈ vs
  · rw [if_pos hi, if_pos hi]
  · rw [if_neg hi, if_neg hi, if_neg fun e => hi (h i e)]
end
/-! ### [elt for target in iter if .. for target1 in iter1 if ..] -/
def lc2L (g : GF) (tt : TF) (it1 : IF) (g1 : GF) (tt1 : TF) (te : EF) (vs vs1 : List Nat) : List PyData → En → Option (List PyData × En)
  | [], en => some ([], en)
  | x :: xs, en => (g x en).bind fun en1 => (tt en1).bind fun p => if p.1 = true then (it1 p.2).bind fun q => (lcL g1 tt1 te vs1 q.1 (wipeE q.2 vs1)).bind fun u =>
      (lc2L g tt it1 g1 tt1 te vs vs1 xs (wipeE u.2 vs)).bind fun r => some (u.1 ++ r.1, r.2)
    else lc2L g tt it1 g1 tt1 te vs vs1 xs (wipeE p.2 vs)
def fLc2 (it : IF) (g : GF) (tt : TF) (it1 : IF) (g1 : GF) (tt1 : TF) (te : EF) (vs vs1 : List Nat) : LF := fun en => (it en).bind fun p => if vs.all (plainAt p.2) = true then
    (lc2L g tt it1 g1 tt1 te vs vs1 p.1 (wipeE p.2 vs)).bind fun r => if r.1.length ≤ sizeLine then some (r.1, backE p.2 r.2 vs) else none else none
theorem slt_lc2 {K : PySem.W.Frag} {it it1 : IF} {g g1 : GF} {tt tt1 : TF} {te : EF} {vs vs1 ws ws1 : List Nat} (hw : ∀ w ∈ ws, w ∈ vs) (hw1 : ∀ w ∈ ws1, w ∈ vs1) (hv : ∀ i ∈ vs1, i ∈ vs) :
    SLt K (tLc2 (canI K it) (canG K g ws) (canT K tt) (canI K it1) (canG K g1 ws1) (canT K tt1) (canE K te) vs vs1) (fLc2 it g tt it1 g1 tt1 te vs vs1) := by
  intro W σ H en zs en' Q hR hf q
  simp only [fLc2, Option.bind_eq_some_iff] at hf
  obtain ⟨⟨xs, en1⟩, e1, hf⟩ := hf
  simp only at hf
  split at hf
  · rename_i hpl
    have hpl' : ∀ v ∈ vs, plainAt en1 v = true := List.all_eq_true.mp hpl
    simp only [Option.bind_eq_some_iff] at hf
    obtain ⟨⟨ys, enE⟩, eE, hf⟩ := hf
    simp only at hf
    split at hf
    · rename_i hz
      simp only [Option.some.injEq, Prod.mk.injEq] at hf
      obtain ⟨rfl, rfl⟩ := hf
      refine ⟨W, en, xs, en1, hR, e1, fun J W1 H1 x1 R1 w D hD => ?_⟩
      have hGD : W1.G D = none := R1.freshG hD
      have hpar := R1.noPar hpl'
      have hpar1 : ∀ q ∈ W1.P, q.1 ∉ vs1 := fun q hq hm => hpar q hq (hv _ hm)
      have R1w := R1.wipes hpar
      have R2 : R K { W1 with G := upd W1.G D (.lst []) } (wipe σ vs) (upd H1 D (.lst [])) (wipeE en1 vs) := (R1w.laid (.lst []) hD).push upd_same (R1.freshF hD) (R1w.unowned hD)
      have wz : ∀ (e : En) (us : List Nat), ∀ v ∈ us, ∀ s, (wipeE e us)[v]? ≠ some (some s) := fun e us v hv s q => by
        rw [wipeE_get, if_pos hv] at q
        split at q <;> cases q
      let Inv0 : Nat → Hp → Prop := fun i H' => ∃ (W2 : Wd) (en2 : En) (acc : List V) (ps rs : List PyData), Ext W1 W2 ∧ R K { W2 with G := upd W1.G D (.lst acc) } (wipe σ vs) H' en2 ∧ DqAll K W2.F acc ps ∧
          lc2L g tt it1 g1 tt1 te vs vs1 (xs.drop i) en2 = some (rs, enE) ∧ ps ++ rs = ys ∧ (∀ v ∈ vs, ∀ s, en2[v]? ≠ some (some s))
      refine ⟨fun i m H' => m = xs.length - i ∧ i ≤ xs.length ∧ Inv0 i H', ⟨xs.length, by simp, Nat.zero_le _, W1, wipeE en1 vs, [], [], ys, Ext.refl _, R2, .nil, by simpa using eE, rfl, wz _ _⟩, ?_⟩
      rintro i m H3 ⟨rfl, hi, W2, en2, acc, ps, rs, x2, R3, hacc, hlc, hys, hno⟩
      by_cases hlt : i < xs.length
      · have ex : xs[i]? = some xs[i] := List.getElem?_eq_getElem hlt
        have ed : xs.drop i = xs[i] :: xs.drop (i + 1) := List.drop_eq_getElem_cons hlt
        rw [ed] at hlc
        simp only [lc2L, Option.bind_eq_some_iff] at hlc
        obtain ⟨en3, e3, ⟨b, en4⟩, e4, hlc⟩ := hlc
        obtain ⟨hgo, hy⟩ := w.go i _ ex { W2 with G := upd W1.G D (.lst acc) } _ H3 en2 x2.F R3
        refine .inr ⟨hgo, Inv0 (i + 1), fun H' h => ⟨xs.length - (i + 1), by omega, rfl, hlt, h⟩, fun v H4 y => ?_⟩
        obtain ⟨W4, x4, R4, hd⟩ := hy v H4 y
        refine ⟨W4, en2, _, en3, R4, hd, e3, fun σ2 R5 l5 k5 => ?_⟩
        have hws : wipe σ2 vs = wipe σ vs := by
          have := wipe_same (σ := wipe σ vs) (σ' := σ2) (vs := vs) l5 fun j hj => k5 j fun hm => hj (hw j hm)
          rw [this]
          exact wipe_wipe σ fun _ h => h
        refine ⟨hws, W4, en3, b, en4, R5, e4, fun W6 H6 x6 R6 => ?_⟩
        have x46 : Ext { W2 with G := upd W1.G D (.lst acc) } W6 := x4.trans x6
        have pW : ∀ {W' : Wd}, Ext { W2 with G := upd W1.G D (.lst acc) } W' → W'.P = W1.P := fun x' => x'.P.trans x2.P
        have asG : ∀ {W' : Wd}, Ext { W2 with G := upd W1.G D (.lst acc) } W' → W' = { W' with G := upd W1.G D (.lst acc) } := fun {W'} x' => by
          have hg := x'.G
          cases W'
          simp only at hg
          rw [hg]
        cases b with
        | true =>
          simp only [if_true, Option.bind_eq_some_iff] at hlc ⊢
          obtain ⟨⟨us, en7⟩, e7, ⟨zs1, en8⟩, e8, ⟨zs2, en9⟩, e9, hlc⟩ := hlc
          simp only [Option.some.injEq, Prod.mk.injEq] at hlc
          obtain ⟨h9, rfl⟩ := hlc
          refine ⟨W6, en4, us, en7, R6, e7, fun J1 W7 H7 x7 R7 w7 => ?_⟩
          have x47 := x46.trans x7
          have R7w := R7.wipes (vs := vs1) (by rw [pW x47]; exact hpar1)
          rw [asG x47] at R7w
          let Inv1 : Nat → Hp → Prop := fun j H' => ∃ (W8 : Wd) (enJ : En) (ac : List V) (pj rj : List PyData), Ext W1 W8 ∧ Same W7.F W8.F ∧ R K { W8 with G := upd W1.G D (.lst ac) } (wipe σ2 vs1) H' enJ ∧ DqAll K W8.F ac pj ∧
              lcL g1 tt1 te vs1 (us.drop j) enJ = some (rj, en8) ∧ pj ++ rj = ps ++ zs1 ∧ (∀ v ∈ vs1, ∀ s, enJ[v]? ≠ some (some s))
          refine ⟨fun j k H' => k = us.length - j ∧ j ≤ us.length ∧ Inv1 j H', ⟨us.length, by simp, Nat.zero_le _, { W7 with G := W1.G }, wipeE en7 vs1, acc, ps, zs1, ⟨x2.F.trans x47.F, rfl, x47.P.trans x2.P⟩, Same.refl _, R7w, dpa_mono x47.F _ _ hacc, by simpa using e8, rfl, wz _ _⟩, ?_⟩
          rintro j k H8 ⟨rfl, hj, W8, enJ, ac, pj, rj, x8, s8, R8, hac, hlj, hpj, hnj⟩
          by_cases hjt : j < us.length
          · have uex : us[j]? = some us[j] := List.getElem?_eq_getElem hjt
            have ued : us.drop j = us[j] :: us.drop (j + 1) := List.drop_eq_getElem_cons hjt
            rw [ued] at hlj
            simp only [lcL, Option.bind_eq_some_iff] at hlj
            obtain ⟨f3, g3, ⟨b1, f4⟩, g4, hlj⟩ := hlj
            obtain ⟨hgo1, hy1⟩ := w7.go j _ uex { W8 with G := upd W1.G D (.lst ac) } _ H8 enJ s8 R8
            refine .inr ⟨hgo1, Inv1 (j + 1), fun H' h => ⟨us.length - (j + 1), by omega, rfl, hjt, h⟩, fun v1 H9 y1 => ?_⟩
            obtain ⟨W9, x9, R9, hd9⟩ := hy1 v1 H9 y1
            refine ⟨W9, enJ, _, f3, R9, hd9, g3, fun σ3 R10 l10 k10 => ?_⟩
            have hws1 : wipe σ3 vs1 = wipe σ2 vs1 := by
              have := wipe_same (σ := wipe σ2 vs1) (σ' := σ3) (vs := vs1) l10 fun a ha => k10 a fun hm => ha (hw1 a hm)
              rw [this]
              exact wipe_wipe σ2 fun _ h => h
            refine ⟨hws1, W9, f3, b1, f4, R10, g4, fun W11 H11 x11 R11 => ?_⟩
            have x911 : Ext { W8 with G := upd W1.G D (.lst ac) } W11 := x9.trans x11
            have asG1 : ∀ {W' : Wd}, Ext { W8 with G := upd W1.G D (.lst ac) } W' → W' = { W' with G := upd W1.G D (.lst ac) } := fun {W'} x' => by
              have hg := x'.G
              cases W'
              simp only at hg
              rw [hg]
            have back1 : ∀ {W' : Wd} {H' : Hp} {e' : En}, Ext { W8 with G := upd W1.G D (.lst ac) } W' → R K W' σ3 H' e' → R K W' (wipe σ2 vs1) H' (wipeE e' vs1) := fun {W' H' e'} x' R' => by
              have := R'.wipes (vs := vs1) (by rw [show W'.P = W1.P from x'.P.trans x8.P]; exact hpar1)
              rwa [hws1] at this
            cases b1 with
            | true =>
              simp only [if_true, Option.bind_eq_some_iff] at hlj ⊢
              obtain ⟨⟨c, f7⟩, g7, hlj⟩ := hlj
              simp only at hlj
              split at hlj
              · rename_i yv
                simp only [Option.bind_eq_some_iff] at hlj
                obtain ⟨⟨r8, f8⟩, g8, hlj⟩ := hlj
                simp only [Option.some.injEq, Prod.mk.injEq] at hlj
                obtain ⟨h8, rfl⟩ := hlj
                refine ⟨W11, f4, _, f7, R11, g7, fun vy W12 H12 x12 R12 v12 => ?_⟩
                have x812 := x911.trans x12
                have R12w := back1 x812 R12
                rw [asG1 x812] at R12w
                have hDl : H12 D = some (.lst ac) := (R.pop hGD R12w).2.1
                have hlen : ac.length < sizeLine := by
                  have l1 := dpa_length hac
                  have l2 : (pj ++ rj).length = (ps ++ zs1).length := by rw [hpj]
                  have l3 : (ps ++ rs).length ≤ sizeLine := by rw [hys]; exact hz
                  rw [← h9] at l3
                  rw [← h8] at l2
                  simp only [List.length_append, List.length_cons] at l2 l3
                  omega
                refine ⟨ac, hDl, hlen, { W12 with G := W1.G }, wipeE f7 vs1, ac ++ [vy], pj ++ [yv], r8, ⟨x8.F.trans x812.F, rfl, x812.P.trans x8.P⟩, s8.trans x812.F, R.grow hGD R12w, dpa_app (dpa_mono x812.F _ _ hac) (dqa_one v12), g8, ?_, wz _ _⟩
                rw [List.append_assoc, List.singleton_append, h8]
                exact hpj
              · cases hlj
            | false =>
              simp only [Bool.false_eq_true, if_false] at hlj ⊢
              have R11w := back1 x911 R11
              rw [asG1 x911] at R11w
              exact ⟨{ W11 with G := W1.G }, wipeE f4 vs1, ac, pj, rj, ⟨x8.F.trans x911.F, rfl, x911.P.trans x8.P⟩, s8.trans x911.F, R11w, dpa_mono x911.F _ _ hac, hlj, hpj, wz _ _⟩
          · have ej : j = us.length := by omega
            subst ej
            rw [List.drop_length] at hlj
            simp only [lcL, Option.some.injEq, Prod.mk.injEq] at hlj
            obtain ⟨rfl, rfl⟩ := hlj
            rw [List.append_nil] at hpj
            subst hpj
            refine .inl ⟨w7.stop { W8 with G := upd W1.G D (.lst ac) } _ H8 enJ s8 R8, ?_⟩
            have Rw := R8.wipes (vs := vs) (by rw [show W8.P = W1.P from x8.P]; exact hpar)
            rw [wipe_wipe σ2 hv, hws] at Rw
            refine ⟨W8, wipeE enJ vs, ac, ps ++ zs1, zs2, x8, Rw, hac, e9, ?_, wz _ _⟩
            rw [List.append_assoc, h9]
            exact hys
        | false =>
          simp only [Bool.false_eq_true, if_false] at hlc ⊢
          have R6w : R K W6 (wipe σ vs) H6 (wipeE en4 vs) := by
            have := R6.wipes (vs := vs) (by rw [pW x46]; exact hpar)
            rwa [hws] at this
          rw [asG x46] at R6w
          exact ⟨{ W6 with G := W1.G }, wipeE en4 vs, acc, ps, rs, ⟨x2.F.trans x46.F, rfl, x46.P.trans x2.P⟩, R6w, dpa_mono x46.F _ _ hacc, hlc, hys, wz _ _⟩
      · have ei : i = xs.length := by omega
        subst ei
        rw [List.drop_length] at hlc
        simp only [lc2L, Option.some.injEq, Prod.mk.injEq] at hlc
        obtain ⟨rfl, rfl⟩ := hlc
        rw [List.append_nil] at hys
        subst hys
        obtain ⟨rb, h1, h2, h3⟩ := R.endBlk R1 x2 hGD R3 hpl' hno
        exact .inl ⟨w.stop { W2 with G := upd W1.G D (.lst acc) } _ H3 en2 x2.F R3, q D acc { W2 with G := W1.G } H3 (x1.trans ⟨x2.F, rfl, x2.P⟩) rb h1 hacc h2 hGD h3⟩
    · cases hf
  · cases hf
section
variable {X : Cx}
theorem sl_lc2 {elt tg iter tg1 iter1 : Expr} {ifs ifs1 : List Expr} {scope : Scope} {own : List (Str × Nat)} {pos : Pos} {it it1 : IF} {g g1 : GF} {tt tt1 : TF} {te : EF} {ws ws1 vs1 : List Nat} (hc : X.calm = true) (hN : X.N.Nodup) (hi : SI X tg iter it) (ok : BlkOk X.N X.env.scope scope own) (hv : ∀ i ∈ vs1, i ∈ own.map (·.2))
    (hg : ∀ (s : Shared) (H : Hp) (C : Addr) (cl : List (Str × Addr)) (fp : List Addr), SG (X.blk s H scope (compEnvC scope cl C X.env) fp) tg g ws) (ht : ∀ (s : Shared) (H : Hp) (C : Addr) (cl : List (Str × Addr)) (fp : List Addr), STs (X.blk s H scope (compEnvC scope cl C X.env) fp) ifs tt)
    (hi1 : ∀ (s : Shared) (H : Hp) (C : Addr) (cl : List (Str × Addr)) (fp : List Addr), SI (X.blk s H scope (compEnvC scope cl C X.env) fp) tg1 iter1 it1)
    (hg1 : ∀ (s : Shared) (H : Hp) (C : Addr) (cl : List (Str × Addr)) (fp : List Addr), SG (X.blk s H scope (compEnvC scope cl C X.env) fp) tg1 g1 ws1) (ht1 : ∀ (s : Shared) (H : Hp) (C : Addr) (cl : List (Str × Addr)) (fp : List Addr), STs (X.blk s H scope (compEnvC scope cl C X.env) fp) ifs1 tt1)
    (he : ∀ (s : Shared) (H : Hp) (C : Addr) (cl : List (Str × Addr)) (fp : List Addr), SE (X.blk s H scope (compEnvC scope cl C X.env) fp) elt te) (hw : ∀ w ∈ ws, w ∈ own.map (·.2)) (hw1 : ∀ w ∈ ws1, w ∈ vs1) (hs : ∀ x, foldedSetIterable iter X.env x = pure x := by intro _; rfl) (hs1 : ∀ env x, foldedSetIterable iter1 env x = pure x := by intro _ _; rfl) :
    SL X (.ListComp elt [⟨tg, iter, ifs, 0⟩, ⟨tg1, iter1, ifs1, 0⟩] scope pos) (fLc2 it g tt it1 g1 tt1 te (own.map (·.2)) vs1) :=
  ⟨_, pe_lc2 hc hN (g := canG X.K g ws) (tt := canT X.K tt) (te := canE X.K te) (g1 := canG X.K g1 ws1) (tt1 := canT X.K tt1) (wi1 := canI X.K it1) (pi_can hi) ok hv (fun s H C cl fp => pg_can (hg s H C cl fp)) (fun s H C cl fp => (ht s H C cl fp).run) (fun s H C cl fp => pi_can (hi1 s H C cl fp))
    (fun s H C cl fp => pg_can (hg1 s H C cl fp)) (fun s H C cl fp => (ht1 s H C cl fp).run) (fun s H C cl fp => pe_can (he s H C cl fp)) hs hs1, slt_lc2 hw hw1 hv⟩
theorem ss_setLc2 {i : Nat} {y : Str} {py : Pos} {elt tg iter tg1 iter1 : Expr} {ifs ifs1 : List Expr} {scope : Scope} {own : List (Str × Nat)} {pos spos : Pos} {it it1 : IF} {g g1 : GF} {tt tt1 : TF} {te : EF} {ws ws1 vs1 : List Nat} (hc : X.calm = true) (hN : X.N.Nodup) (hi : SI X tg iter it) (ok : BlkOk X.N X.env.scope scope own) (hv : ∀ i ∈ vs1, i ∈ own.map (·.2))
    (hg : ∀ (s : Shared) (H : Hp) (C : Addr) (cl : List (Str × Addr)) (fp : List Addr), SG (X.blk s H scope (compEnvC scope cl C X.env) fp) tg g ws) (ht : ∀ (s : Shared) (H : Hp) (C : Addr) (cl : List (Str × Addr)) (fp : List Addr), STs (X.blk s H scope (compEnvC scope cl C X.env) fp) ifs tt)
    (hi1 : ∀ (s : Shared) (H : Hp) (C : Addr) (cl : List (Str × Addr)) (fp : List Addr), SI (X.blk s H scope (compEnvC scope cl C X.env) fp) tg1 iter1 it1)
    (hg1 : ∀ (s : Shared) (H : Hp) (C : Addr) (cl : List (Str × Addr)) (fp : List Addr), SG (X.blk s H scope (compEnvC scope cl C X.env) fp) tg1 g1 ws1) (ht1 : ∀ (s : Shared) (H : Hp) (C : Addr) (cl : List (Str × Addr)) (fp : List Addr), STs (X.blk s H scope (compEnvC scope cl C X.env) fp) ifs1 tt1)
    (he : ∀ (s : Shared) (H : Hp) (C : Addr) (cl : List (Str × Addr)) (fp : List Addr), SE (X.blk s H scope (compEnvC scope cl C X.env) fp) elt te) (hw : ∀ w ∈ ws, w ∈ own.map (·.2)) (hw1 : ∀ w ∈ ws1, w ∈ vs1)
    (hsw : swapsWith (.ListComp elt [⟨tg, iter, ifs, 0⟩, ⟨tg1, iter1, ifs1, 0⟩] scope pos) (some (.Name y py)) spos.line X.env = pure true) (hy : X.N[i]? = some y := by rfl) (hyl : X.env.scope.names.lookup y = some .local := by rfl) (hs : ∀ x, foldedSetIterable iter X.env x = pure x := by intro _; rfl) (hs1 : ∀ env x, foldedSetIterable iter1 env x = pure x := by intro _ _; rfl) :
    SS X (.Assign [.Name y py] (.ListComp elt [⟨tg, iter, ifs, 0⟩, ⟨tg1, iter1, ifs1, 0⟩] scope pos) spos) (sAsg (gSet i) (fOfL (fLc2 it g tt it1 g1 tt1 te (own.map (·.2)) vs1))) := by
  refine ⟨_, ps_setLc2 hc hN hy hyl hsw (g := canG X.K g ws) (tt := canT X.K tt) (te := canE X.K te) (g1 := canG X.K g1 ws1) (tt1 := canT X.K tt1) (wi1 := canI X.K it1) (pi_can hi) ok hv (fun s H C cl fp => pg_can (hg s H C cl fp)) (fun s H C cl fp => (ht s H C cl fp).run) (fun s H C cl fp => pi_can (hi1 s H C cl fp))
    (fun s H C cl fp => pg_can (hg1 s H C cl fp)) (fun s H C cl fp => (ht1 s H C cl fp).run) (fun s H C cl fp => pe_can (he s H C cl fp)) hs hs1, sst_asg (fun W σ H en r en' Q hR hf q => ?_) sgt_name⟩
  simp only [fOfL, Option.bind_eq_some_iff] at hf
  obtain ⟨⟨xs, en1⟩, e1, hf⟩ := hf
  cases hf
  refine slt_lc2 hw hw1 hv W σ H en xs _ Q hR e1 fun a vs W' H' hx hR' h1 h2 h3 h4 h5 => ?_
  exact q _ _ H' (hx.trans (ext_new hR' _ h3)) (hR'.keep h1 h3 h4 h5) (.lst (.of upd_same) (dpa_mono (same_new h3) _ _ h2))
end
end L2.FL
set_option Elab.async false
set_option linter.all false
set_option maxRecDepth 100000
set_option maxHeartbeats 2000000
/-! FL14: l.index(x); range by steps. -/
namespace L2.FL
open PySem PySem.Spec PyProof.Rows L2

/-! ### methods of lists that are read -/
def SM (K : PySem.W.Frag) (r : V → List V → Hp → VK → Prop) (o : PyData → PyData → Option PyData) : Prop := ∀ (F H : Hp) (v w : V) (x y z : PyData) (Q : VK), Same F H → DpR K F H v x → DpR K F H w y → o x y = some z →
  (∀ u, Dq K F u z → Q u H) → r v [w] H Q
def isLst : PyData → Bool
  | .list _ => true
  | _ => false
def fMethL (o : PyData → PyData → Option PyData) (f g : EF) : EF := fun en => (f en).bind fun p => (res p.2 p.1).bind fun x0 => if isLst x0 = true then (g p.2).bind fun q => (res q.2 p.1).bind fun x => (res q.2 q.1).bind fun y => (o x y).bind fun z => some (.d z, q.2) else none
def oIndex (c x : PyData) : Option PyData := match c with
  | .list ds => if SeqAt.shaped (.list ds) && SeqAt.shaped x then (ds.findIdx? fun z => PyData.eqv z x).map fun j => .int (j : Nat) else none
  | _ => none
theorem s_index {K : PySem.W.Frag} : SM K (rIndexD K) oIndex := by
  intro F H v w x y z Q s dx dy e k
  unfold oIndex at e
  split at e
  · rename_i ds
    split at e
    · rename_i hk
      simp only [Bool.and_eq_true] at hk
      obtain ⟨j, e1, e2⟩ := Option.map_eq_some_iff.mp e
      subst e2
      obtain ⟨hj, h1, h2⟩ := List.findIdx?_eq_some_iff_getElem.mp e1
      have hv := dq_dp _ _ (dx.now s)
      obtain ⟨a, vs, rfl, _⟩ := dx.list s
      exact ⟨a, w, y, ds, j, ds[j], rfl, rfl, hv, dq_dp _ _ (dy.now s), hk.1, hk.2, List.getElem?_eq_getElem hj, h1, fun m z' hm hz => by
        obtain ⟨hm', rfl⟩ := List.getElem?_eq_some_iff.mp hz
        simpa using h2 m hm, k _ (.int _)⟩
    · cases e
  · cases e
section
variable {X : Cx}
theorem se_index {o e : Expr} {f g : EF} {apos cpos : Pos} (hu : X.A.units + 200 < cLine) (ho : SE X o f) (ha : SE X e g) (hbase : attributeBase o "index" X.env (eval o X.env) = eval o X.env := by rfl)
    (hfew : ((backTo cpos (starEach [e] X.env)).all (fun x => !x.1) && (backToKw cpos (keywordEach [] X.env)).all (fun x => x.1.isSome) && decide ([e].length + ([] : List Keyword).length + (if ([] : List Keyword).isEmpty then 0 else 1) < 30)) = true := by rfl)
    (hline : (apos.endLine == cpos.line) = true := by rfl) (hs : starEach [e] X.env = (false, eval e X.env) :: starEach [] X.env := by rfl) (hpl : (backTo cpos (starEach [] X.env)).any (·.1) = false := by rfl) :
    SE X (.Call (.Attribute o "index" apos) [e] [] cpos) (fMethL oIndex f g) := by
  obtain ⟨t, hp, ht⟩ := ho.run
  obtain ⟨u, hq, hu'⟩ := ha.run
  refine ⟨_, pe_bm PySem.F.plainAttrs_list PySem.F.slot_list_index PySem.F.type_list_index (mt_indexD (by omega)) hp (pa_cons hq pa_nil hs) hbase hfew hline hs hpl, fun W σ H en r en' Q hR hf q => ?_⟩
  simp only [fMethL, Option.bind_eq_some_iff] at hf
  obtain ⟨⟨q1, en1⟩, e1, x0, e0, hf⟩ := hf
  simp only at hf
  split at hf
  · rename_i hl
    simp only [Option.bind_eq_some_iff] at hf
    obtain ⟨⟨q2, en2⟩, e2, x, e3, y, e4, z, e5, hf⟩ := hf
    cases hf
    refine ht W σ H en q1 en1 _ hR e1 fun v W1 H1 x1 R1 v1 => ?_
    have d0 := R1.res v1 e0
    have ty : tyV X.K "list" v H1 := by
      cases x0 with
      | list ds =>
        obtain ⟨a, vs, rfl, h1, _⟩ := d0.list R1.subF
        exact .inl ⟨rfl, vs, h1⟩
      | _ => cases hl
    refine ⟨ty, hu' W1 σ H1 en1 q2 en2 _ R1 e2 fun w W2 H2 x2 R2' v2 => ?_⟩
    exact s_index W2.F H2 v w x y z Q R2'.subF (R2'.res (v1.mono x2.F) e3) (R2'.res v2 e4) e5 fun u hu => q u W2 H2 (x1.trans x2) R2' hu
  · cases hf
end
/-! ### range(a, b, c) -/
def rngC (lo c : Int) (n : Nat) : List PyData := (List.range n).map fun (i : Nat) => .int (lo + (i : Int) * c)
theorem walk_rngC {K : PySem.W.Frag} {F : Hp} (lo c : Int) (n : Nat) : WalkD K (Itc lo c n) F (rngC lo c n) := by
  refine ⟨fun W σ H en s r => ?_, fun i x e W σ H en s r => ?_⟩
  · show n ≤ (rngC lo c n).length
    simp [rngC]
  · have hi : i < n := by
      have := (List.getElem?_eq_some_iff.mp e).1
      simpa [rngC] using this
    refine ⟨hi, fun u H' y => ?_⟩
    obtain ⟨rfl, rfl⟩ := y
    have e' : x = .int (lo + i * c) := by
      unfold rngC at e
      rw [List.getElem?_map, List.getElem?_range hi] at e
      cases e
      rfl
    subst e'
    exact ⟨W, Ext.refl _, r, .int _⟩
/-- the number of items -/
def rngN (a b c : Int) : Nat := (Builtin.Range.rangeSize a b c).toNat
def rngOk (a b c : Int) : Bool := decide (c ≠ 0) && decide (c.natAbs < 1073741824) && Builtin.Range.small a b c && decide (0 ≤ Builtin.Range.rangeSize a b c)
def fRng3 (f g h : EF) : IF := fun en => (f en).bind fun p => (asInt p.1).bind fun a => (g p.2).bind fun q => (asInt q.1).bind fun b => (h q.2).bind fun u => (asInt u.1).bind fun c =>
  if rngOk a b c = true then some (rngC a c (rngN a b c), u.2) else none
theorem si_range3 {X : Cx} {tg a b c : Expr} {f g h : EF} {p pos : Pos} (hg : Gl X "range") (hm : X.mg "range" = none) (ha : SE X a f) (hb : SE X b g) (hc : SE X c h)
    (hs : starEach [a, b, c] X.env = (false, eval a X.env) :: starEach [b, c] X.env := by rfl) (hs2 : starEach [b, c] X.env = (false, eval b X.env) :: starEach [c] X.env := by rfl) (hs3 : starEach [c] X.env = (false, eval c X.env) :: starEach [] X.env := by rfl)
    (hpl : (backTo pos (starEach [b, c] X.env)).any (·.1) = false := by rfl) : SI X tg (.Call (.Name "range" p) [a, b, c] [] pos) (fRng3 f g h) := by
  obtain ⟨t, hp, ht⟩ := ha.run
  obtain ⟨u, hq, hu⟩ := hb.run
  obtain ⟨y, hr, hy⟩ := hc.run
  refine ⟨_, pi_range3 hg hm (pa_cons hp (pa_cons hq (pa_cons hr pa_nil hs3) hs2) hs) hs hpl, fun W σ H en xs en' Q hR hf q => ?_⟩
  simp only [fRng3, Option.bind_eq_some_iff] at hf
  obtain ⟨⟨c1, en1⟩, e1, i, e2, ⟨c2, en2⟩, e3, j, e4, ⟨c3, en3⟩, e5, k, e6, hf⟩ := hf
  cases asInt_eq e2
  cases asInt_eq e4
  cases asInt_eq e6
  split at hf
  · rename_i hn
    cases hf
    unfold rngOk at hn
    simp only [Bool.and_eq_true, decide_eq_true_eq] at hn
    obtain ⟨⟨⟨n1, n2⟩, n3⟩, n4⟩ := hn
    refine ht W σ H en _ _ _ hR e1 fun v W1 H1 x1 R1 v1 => ?_
    cases rint v1
    refine hu W1 σ H1 _ _ _ _ R1 e3 fun w W2 H2 x2 R2' w2 => ?_
    cases rint w2
    refine hy W2 σ H2 _ _ _ _ R2' e5 fun z W3 H3 x3 R3 w3 => ?_
    cases rint w3
    exact ⟨i, j, k, rngN i j k, rfl, ⟨n1, n2, n3, by unfold rngN; omega⟩, q _ W3 H3 ((x1.trans x2).trans x3) R3 (walk_rngC i k _)⟩
  · cases hf
end L2.FL
set_option Elab.async false
set_option linter.all false
set_option maxRecDepth 100000
set_option maxHeartbeats 2000000
/-! FL15: not, or, and by truth; defs with defaults. -/
namespace L2.FL
open PySem PySem.Spec PyProof.Rows L2

theorem DpR.truth {K : PySem.W.Frag} {F H : Hp} {v : V} {x : PyData} {b : Bool} (s : Same F H) (hd : DpR K F H v x) (e3 : tru x = some b) : TruV K v H b := by
  cases x with
  | none => cases hd.none; cases e3; rfl
  | bool b => cases hd.bool; cases e3; rfl
  | int i => cases hd.int; cases e3; rfl
  | str s =>
    cases hd.str
    simp only [tru] at e3
    split at e3
    · rename_i hs
      cases e3
      exact ⟨hs, rfl⟩
    · cases e3
  | list xs =>
    obtain ⟨a, vs, rfl, h1, h2⟩ := hd.list s
    cases e3
    refine .inl ⟨vs, h1, ?_⟩
    cases h2 <;> rfl
  | tuple xs =>
    obtain ⟨a, vs, rfl, h1, h2⟩ := hd.tuple s
    cases e3
    refine .inr (.inl ⟨vs, h1, ?_⟩)
    cases h2 <;> rfl
  | dict kvs => cases e3
def fNotT (f : EF) : EF := fun en => (f en).bind fun p => (res p.2 p.1).bind fun x => (tru x).bind fun b => some (.d (.bool !b), p.2)
def fOrT (f g : EF) : EF := fun en => (f en).bind fun p => (res p.2 p.1).bind fun x => (tru x).bind fun b => if b = true then some p else g p.2
def fAndT (f g : EF) : EF := fun en => (f en).bind fun p => (res p.2 p.1).bind fun x => (tru x).bind fun b => if b = true then g p.2 else some p
section
variable {X : Cx}
theorem se_notT {a : Expr} {f : EF} {pos : Pos} (h : SE X a f) : SE X (.UnaryOp .Not a pos) (fNotT f) := by
  obtain ⟨t, hp, ht⟩ := h.run
  refine ⟨_, pe_notT hp, fun W σ H en r en' Q hR hf q => ?_⟩
  simp only [fNotT, Option.bind_eq_some_iff] at hf
  obtain ⟨⟨c, en1⟩, e1, x, e2, b, e3, hf⟩ := hf
  cases hf
  exact ht W σ H en c en1 _ hR e1 fun v W1 H1 x1 R1 v1 => ⟨b, (R1.res v1 e2).truth R1.subF e3, q _ W1 H1 x1 R1 (.bl _)⟩
theorem se_orT {a b : Expr} {rest : List Expr} {f g : EF} {pos : Pos} (h : SE X a f) (k : SE X (.BoolOp .Or (b :: rest) pos) g) : SE X (.BoolOp .Or (a :: b :: rest) pos) (fOrT f g) := by
  obtain ⟨t, hp, ht⟩ := h.run
  obtain ⟨u, hq, hu⟩ := k.run
  refine ⟨_, pe_orT hp hq, fun W σ H en r en' Q hR hf q => ?_⟩
  simp only [fOrT, Option.bind_eq_some_iff] at hf
  obtain ⟨⟨c, en1⟩, e1, x, e2, b, e3, hf⟩ := hf
  refine ht W σ H en c en1 _ hR e1 fun v W1 H1 x1 R1 v1 => ⟨b, (R1.res v1 e2).truth R1.subF e3, ?_⟩
  cases b with
  | true =>
    cases hf
    exact q _ W1 H1 x1 R1 v1
  | false => exact hu W1 σ H1 en1 r en' Q R1 hf fun w W2 H2 x2 R2' w2 => q w W2 H2 (x1.trans x2) R2' w2
theorem se_andT {a b : Expr} {rest : List Expr} {f g : EF} {pos : Pos} (h : SE X a f) (k : SE X (.BoolOp .And (b :: rest) pos) g) : SE X (.BoolOp .And (a :: b :: rest) pos) (fAndT f g) := by
  obtain ⟨t, hp, ht⟩ := h.run
  obtain ⟨u, hq, hu⟩ := k.run
  refine ⟨_, pe_andT hp hq, fun W σ H en r en' Q hR hf q => ?_⟩
  simp only [fAndT, Option.bind_eq_some_iff] at hf
  obtain ⟨⟨c, en1⟩, e1, x, e2, b, e3, hf⟩ := hf
  refine ht W σ H en c en1 _ hR e1 fun v W1 H1 x1 R1 v1 => ⟨b, (R1.res v1 e2).truth R1.subF e3, ?_⟩
  cases b with
  | false =>
    cases hf
    exact q _ W1 H1 x1 R1 v1
  | true => exact hu W1 σ H1 en1 r en' Q R1 hf fun w W2 H2 x2 R2' w2 => q w W2 H2 (x1.trans x2) R2' w2
end
/-! ### defs, with or without defaults -/
section
variable {P : Program} {w : World} {K : PySem.W.Frag} {mg : Str → Option Value} {base : Heap}
theorem runs_body {X : Cx} {N ps : List Str} {body : List Stmt} {g : SF} {n : Nat} {vs : List V} {H : Hp} {Q : VK} {E : XK} (hN : N.length = ps.length + n) (hb : SSs X body g) (hq : spF X.K g ps.length n vs H Q E) : ∃ t, PSs X body t ∧ t { nx := fun _ H' => Q .non H', rt := Q } (start N vs) H := by
  obtain ⟨W, as, y, as', hl, hP, hL, hR, hf, q⟩ := hq
  obtain ⟨t, ht, hs⟩ := hb.run
  refine ⟨t, ht, ?_⟩
  have hlen := hR.len
  simp only [List.length_map] at hlen
  have e0 : start N vs = vs.map some ++ List.replicate n none := by
    unfold start
    rw [show N.length - vs.length = n by omega]
  rw [e0]
  simp only [fcall, Option.bind_eq_some_iff] at hf
  obtain ⟨⟨o, en'⟩, e1, hf⟩ := hf
  refine hs W _ H _ o en' _ (hR.more n) e1 fun W' σ' H' x' R' => ?_
  cases o with
  | rt z =>
    simp only [Option.some.injEq, Prod.mk.injEq] at hf
    obtain ⟨rfl, rfl⟩ := hf
    exact fun v hv => q v W' H' x' (hR.params hP hL x' R') hv
  | nx =>
    simp only [Option.some.injEq, Prod.mk.injEq] at hf
    obtain ⟨rfl, rfl⟩ := hf
    exact q .non W' H' x' (hR.params hP hL x' R') .non
  | bk => cases hf
  | ct => cases hf
theorem okD_def {x qual : Str} {params : Arguments} {body : List Stmt} {scope : Scope} {dvs : List V} {kws : List (Str × V)} {f : Addr} {fd : FuncData} {N ps : List Str} {k : Nat} {g : SF} {n : Nat} (F : FunD K x qual params body scope dvs kws f fd) (S : FnScope N ps scope) (hn : N.length = ps.length + n)
    (hbody : ∀ (cdv : Value) (A : Around) (outer : List Env) (s : Shared) (H : Hp) (E : XK), Room k (A.deeper (envOfC qual scope s.heap.objs.size f cdv)) → (A.deeper (envOfC qual scope s.heap.objs.size f cdv)).guards = some [] →
      SSs (cxOf CX0 P w K mg base N qual scope f cdv A outer s H E).nox body g) : FnG P w K mg base (k + 1) f fd ps (spF K g ps.length n) := by
  obtain ⟨oc, od, dV, kV, doc, pm, an, cdv, ct, osl, rfl, lk, hcd, _, _⟩ := F.ex
  refine fn_ofG lk hcd S (fun vs H Q E h => ?_) fun A outer s H vs Q E hr hg hsp => ?_
  · obtain ⟨W, as, y, as', hl, _, _, hR, _⟩ := h
    have := hR.len
    simp only [List.length_map] at this
    omega
  · obtain ⟨t, ht, q⟩ := runs_body hn (hbody cdv A outer s H E hr hg) hsp
    exact ⟨t, ht.nox, q⟩
end
end L2.FL
set_option Elab.async false
set_option linter.all false
set_option maxRecDepth 100000
set_option maxHeartbeats 2000000
/-! FL16: targets that change lists; several stores at once; defs by name. -/
namespace L2.FL
open PySem PySem.Spec PyProof.Rows L2

/-! ### targets that may change lists -/
structure SHt (K : PySem.W.Frag) (t : TG) (f : GF) : Prop where
  go : ∀ (W : Wd) (σ : St) (H : Hp) (en : En) (v : V) (x : PyData) (en' : En) (Q : St → Hp → Prop), R K W σ H en → Dq K W.F v x → f x en = some en' → (∀ W' σ' H', Ext W W' → R K W' σ' H' en' → Q σ' H') → t v σ H Q
structure SH (X : Cx) (tg : Expr) (f : GF) : Prop where
  run : ∃ t, PG X tg t ∧ SHt X.K t f
structure SHst (K : PySem.W.Frag) (t : TGs) (f : GsF) : Prop where
  go : ∀ (W : Wd) (σ : St) (H : Hp) (en : En) (vs : List V) (xs : List PyData) (en' : En) (Q : St → Hp → Prop), R K W σ H en → DqAll K W.F vs xs → f xs en = some en' → (∀ W' σ' H', Ext W W' → R K W' σ' H' en' → Q σ' H') → t vs σ H Q
structure SHs (X : Cx) (ts : List Expr) (f : GsF) : Prop where
  run : ∃ t, PGs X ts t ∧ SHst X.K t f
/-- xs[i] = .. as a target -/
def gIx (i : Nat) (fi : EF) : GF := fun y en => (live en i).bind fun _ => (fi en).bind fun q => (asInt q.1).bind fun k => (live q.2 i).bind fun xs => (ixN xs.length k).bind fun j => some (putL q.2 i (xs.set j y))
section
variable {X : Cx}
theorem sh_of {tg : Expr} {f : GF} {ws : List Nat} (h : SG X tg f ws) : SH X tg f := by
  obtain ⟨t, hp, ht⟩ := h.run
  exact ⟨t, hp, ⟨fun W σ H en v x en' Q hR hd hf q => ht.go W σ H en v x en' Q hR hd hf fun σ' r _ _ => q W σ' H (Ext.refl _) r⟩⟩
theorem sh_ix (i : Nat) {x : Str} {ei : Expr} {fi : EF} {p p2 : Pos} (hi : SE X ei fi) (hN : X.N[i]? = some x := by rfl) (hv : Vis X.env.scope x := by first | exact Or.inl rfl | exact Or.inr (Or.inl rfl) | exact Or.inr (Or.inr rfl)) (hd : (x == ("__debug__" : Str)) = false := by decide)
    (hcd : (x == ("__classdict__" : Str)) = false := by decide) (ha : ∀ v, assign (.Subscript (.Name x p) ei p2) X.env v = (do
      let ov ← holding [v] (eval (.Name x p) X.env)
      let iv ← holding [v, ov] (eval ei X.env)
      standAt p2
      holding [v, ov, iv] (setItem ov iv v)
      release [v, ov, iv] []) := by intro _; rfl) : SH X (.Subscript (.Name x p) ei p2) (gIx i fi) := by
  obtain ⟨u, hq, hu⟩ := hi.run
  refine ⟨_, pg_sub (pe_var hN hv hd hcd) hq set_list ha, ⟨fun W σ H en v y en' Q hR hdq hf q => ?_⟩⟩
  simp only [gIx, Option.bind_eq_some_iff] at hf
  obtain ⟨xs0, e0, ⟨c2, en2⟩, e2, k, e3, xs, e4, j, e5, hf⟩ := hf
  cases hf
  cases asInt_eq e3
  obtain ⟨a, vs0, g1, g2, _⟩ := hR.liv i xs0 e0
  refine ⟨.ref a, g1, hu W σ H en _ _ _ hR e2 fun w W2 H2 x2 R2' w2 => ?_⟩
  cases rint w2
  obtain ⟨a', vs, k1, k2, k3, _⟩ := R2'.liv i xs e4
  rw [g1] at k1
  cases k1
  exact ⟨a, vs, k, j, rfl, rfl, k2, by rw [dpa_length k3]; exact e5, q W2 σ _ x2 (R2'.put e4 g1 (dpa_set (dp_mono x2.F _ _ hdq) j k3))⟩
theorem shs_nil : SHs X [] gNil' := by
  refine ⟨_, pgs_nil, ⟨fun W σ H en vs xs en' Q hR hd he q => ?_⟩⟩
  unfold gNil' at he
  split at he
  · cases he
    cases hd
    exact ⟨rfl, q W σ H (Ext.refl _) hR⟩
  · cases he
theorem shs_cons {e : Expr} {es : List Expr} {f : GF} {g : GsF} (h : SH X e f) (k : SHs X es g) (hs : (assignEach (e :: es) X.env).map (·.2) = assign e X.env :: (assignEach es X.env).map (·.2) := by rfl) : SHs X (e :: es) (gCons' f g) := by
  obtain ⟨t, hp, ht⟩ := h.run
  obtain ⟨u, hq, hu⟩ := k.run
  refine ⟨_, pgs_cons hp hq hs, ⟨fun W σ H en vs xs en' Q hR hd he q => ?_⟩⟩
  unfold gCons' at he
  split at he
  · simp only [Option.bind_eq_some_iff] at he
    obtain ⟨en1, e1, he⟩ := he
    cases hd with
    | cons h1 h2 =>
      exact ⟨_, _, rfl, ht.go W σ H en _ _ en1 _ hR h1 e1 fun W1 σ1 H1 x1 R1 => hu.go W1 σ1 H1 en1 _ _ en' Q R1 (dpa_mono x1.F _ _ h2) he fun W2 σ2 H2 x2 R2' => q W2 σ2 H2 (x1.trans x2) R2'⟩
  · cases he
theorem sh_tup {es : List Expr} {k : Nat} {f : GsF} {n : Nat} {pos : Pos} (hc : X.calm = true) (h : SHs X es f) (hn : (assignEach es X.env).length = n := by rfl) (hst : (assignEach es X.env).findIdx? (·.1) = none := by rfl)
    (hl : ∀ xs en en', f xs en = some en' → xs.length = n) : SH X (.Tuple es k pos) (gTup' f) := by
  obtain ⟨t, hp, ht⟩ := h.run
  refine ⟨_, pg_tup hc hp hn hst, ⟨fun W σ H en v x en' Q hR hd he q => ?_⟩⟩
  unfold gTup' at he
  split at he
  · rename_i xs
    cases hd with
    | tup h1 h2 =>
      exact ⟨_, _, rfl, same_sqt hR.subF h1, by rw [dpa_length h2]; exact hl _ _ _ he, ht.go W σ H en _ _ en' Q hR h2 he q⟩
  · cases he
theorem ss_asgH {tg e : Expr} {f : EF} {g : GF} {pos : Pos} (he : SE X e f) (hg : SH X tg g) (hs : swapsWithSole [tg] e pos.line X.env = pure false := by rfl) (hw : swappedStores [tg] e X.env = pure none := by rfl)
    (h1 : (assignEach [tg] X.env).map (·.2) = [assign tg X.env] := by rfl) : SS X (.Assign [tg] e pos) (sAsg g f) := by
  obtain ⟨t, hp, ht⟩ := he.run
  obtain ⟨u, hq, hu⟩ := hg.run
  refine ⟨_, ps_asg hp hq hs hw h1, fun W σ H en o en' D hR hf q => ?_⟩
  simp only [sAsg, Option.bind_eq_some_iff] at hf
  obtain ⟨⟨c, en1⟩, e1, hf⟩ := hf
  refine ht W σ H en c en1 _ hR e1 fun v W1 H1 x1 R1 v1 => ?_
  simp only at hf
  split at hf
  · simp only [Option.bind_eq_some_iff] at hf
    obtain ⟨en2, e2, hf⟩ := hf
    cases hf
    exact hu.go W1 σ H1 en1 v _ _ _ R1 v1 e2 fun W2 σ' H2 x2 R2' => q W2 σ' H2 (x1.trans x2) R2'
  · cases hf
end

/-! ### several values at once, new lists among them -/
inductive PV where
  | d (x : PyData)
  | l (xs : List PyData)
abbrev PF := En → Option (List PV × En)
def lr : List V → List PV → List Addr
  | .ref a :: vs, .l _ :: r => a :: lr vs r
  | _ :: vs, _ :: r => lr vs r
  | _, _ => []
inductive Held (K : PySem.W.Frag) (W : Wd) (H : Hp) (σ : St) (en : En) : List V → List PV → Prop
  | nil : Held K W H σ en [] []
  | d {v : V} {vs : List V} {x : PyData} {r : List PV} : Dq K W.F v x → Held K W H σ en vs r → Held K W H σ en (v :: vs) (.d x :: r)
  | l {a : Addr} {ws vs : List V} {xs : List PyData} {r : List PV} : H a = some (.lst ws) → DqAll K W.F ws xs → W.F a = none → W.G a = none → Unowned σ en a → a ∉ lr vs r → Held K W H σ en vs r → Held K W H σ en (.ref a :: vs) (.l xs :: r)
theorem Held.length {K : PySem.W.Frag} {W : Wd} {H : Hp} {σ : St} {en : En} : ∀ {vs : List V} {r : List PV}, Held K W H σ en vs r → vs.length = r.length
  | _, _, .nil => rfl
  | _, _, .d _ h => by simp [h.length]
  | _, _, .l _ _ _ _ _ _ h => by simp [h.length]
theorem Held.pop {K : PySem.W.Frag} {W : Wd} {G : Hp} {D : Addr} {o : HO} {H : Hp} {σ : St} {en : En} (hG : G D = none) : ∀ {vs : List V} {r : List PV}, Held K { W with G := upd G D o } H σ en vs r → Held K { W with G := G } H σ en vs r ∧ D ∉ lr vs r
  | _, _, .nil => ⟨.nil, by simp [lr]⟩
  | _, _, .d (v := v) hd h => by
    obtain ⟨h1, h2⟩ := Held.pop hG h
    refine ⟨.d hd h1, ?_⟩
    cases v <;> simpa [lr] using h2
  | _, _, .l (a := a) e1 e2 e3 e4 e5 e6 h => by
    obtain ⟨h1, h2⟩ := Held.pop hG h
    have e4' : (upd G D o) a = none := e4
    have hne : a ≠ D := fun z => by
      subst z
      rw [upd_same] at e4'
      cases e4'
    rw [upd_ne hne] at e4'
    refine ⟨.l e1 e2 e3 e4' e5 e6 h1, ?_⟩
    simp only [lr, List.mem_cons, not_or]
    exact ⟨fun z => hne z.symm, h2⟩
theorem Held.set {K : PySem.W.Frag} {W : Wd} {H : Hp} {σ σ' : St} {en en' : En} : ∀ {vs : List V} {r : List PV}, Held K W H σ en vs r → (∀ a ∈ lr vs r, Unowned σ en a → Unowned σ' en' a) → Held K W H σ' en' vs r
  | _, _, .nil, _ => .nil
  | _, _, .d (v := v) hd h, k => .d hd (h.set fun a ha => k a (by cases v <;> simpa [lr] using ha))
  | _, _, .l e1 e2 e3 e4 e5 e6 h, k => .l e1 e2 e3 e4 (k _ (by simp [lr]) e5) e6 (h.set fun a ha => k a (by simp [lr, ha]))
theorem Held.laid {K : PySem.W.Frag} {W : Wd} {H : Hp} {σ : St} {en : En} {p : Addr} {o : HO} (hp : H p = none) : ∀ {vs : List V} {r : List PV}, Held K W H σ en vs r → Held K W (upd H p o) σ en vs r
  | _, _, .nil => .nil
  | _, _, .d hd h => .d hd (Held.laid hp h)
  | _, _, .l h1 h2 h3 h4 h5 h6 h => .l (by rw [upd_ne (ne_of_none h1 hp)]; exact h1) h2 h3 h4 h5 h6 (Held.laid hp h)
def SPt (K : PySem.W.Frag) (t : TA) (f : PF) : Prop := ∀ (W : Wd) (σ : St) (H : Hp) (en : En) (r : List PV) (en' : En) (Q : List V → Hp → Prop), R K W σ H en → f en = some (r, en') →
  (∀ vs W' H', Ext W W' → R K W' σ H' en' → Held K W' H' σ en' vs r → Q vs H') → t σ H Q
structure SP (X : Cx) (es : List Expr) (f : PF) : Prop where
  run : ∃ t, PA X es t ∧ SPt X.K t f
def pNil : PF := fun en => some ([], en)
def pE (f : EF) (g : PF) : PF := fun en => (f en).bind fun p => match p.1 with
  | .d x => (g p.2).bind fun q => some (.d x :: q.1, q.2)
  | _ => none
def pL (f : LF) (g : PF) : PF := fun en => (f en).bind fun p => (g p.2).bind fun q => some (.l p.1 :: q.1, q.2)
section
variable {X : Cx}
theorem sp_nil : SP X [] pNil := ⟨_, pa_nil, fun W σ H en r en' Q hR hf q => by cases hf; exact q [] W H (Ext.refl _) hR .nil⟩
theorem sp_e {e : Expr} {es : List Expr} {f : EF} {g : PF} (h : SE X e f) (k : SP X es g) (hs : starEach (e :: es) X.env = (false, eval e X.env) :: starEach es X.env := by rfl) : SP X (e :: es) (pE f g) := by
  obtain ⟨t, hp, ht⟩ := h.run
  obtain ⟨u, hq, hu⟩ := k.run
  refine ⟨_, pa_cons hp hq hs, fun W σ H en r en' Q hR hf q => ?_⟩
  simp only [pE, Option.bind_eq_some_iff] at hf
  obtain ⟨⟨c, en1⟩, e1, hf⟩ := hf
  simp only at hf
  split at hf
  · simp only [Option.bind_eq_some_iff] at hf
    obtain ⟨⟨r2, en2⟩, e2, hf⟩ := hf
    cases hf
    exact ht W σ H en _ en1 _ hR e1 fun v W1 H1 x1 R1 v1 => hu W1 σ H1 en1 r2 _ _ R1 e2 fun vs W2 H2 x2 R2' hh => q _ W2 H2 (x1.trans x2) R2' (.d (dp_mono x2.F _ _ v1) hh)
  · cases hf
theorem sp_l {e : Expr} {es : List Expr} {f : LF} {g : PF} (h : SL X e f) (k : SP X es g) (hs : starEach (e :: es) X.env = (false, eval e X.env) :: starEach es X.env := by rfl) : SP X (e :: es) (pL f g) := by
  obtain ⟨t, hp, ht⟩ := h.run
  obtain ⟨u, hq, hu⟩ := k.run
  refine ⟨_, pa_cons hp hq hs, fun W σ H en r en' Q hR hf q => ?_⟩
  simp only [pL, Option.bind_eq_some_iff] at hf
  obtain ⟨⟨c, en1⟩, e1, ⟨r2, en2⟩, e2, hf⟩ := hf
  cases hf
  refine ht W σ H en _ en1 _ hR e1 fun a ws W1 H1 x1 R1 h1 h2 h3 h4 h5 => ?_
  have Rp := R1.push h1 h3 h5
  refine hu { W1 with G := upd W1.G a (.lst ws) } σ H1 en1 r2 _ _ Rp e2 fun vs W2 H2 x2 R2' hh => ?_
  have eW : W2 = { W2 with G := upd W1.G a (.lst ws) } := by
    have hg := x2.G
    cases W2
    simp only at hg
    rw [hg]
  rw [eW] at R2' hh
  obtain ⟨r1, k1, k2, k3⟩ := R.pop h4 R2'
  obtain ⟨hh1, hh2⟩ := Held.pop h4 hh
  exact q _ { W2 with G := W1.G } H2 (x1.trans ⟨x2.F, rfl, x2.P⟩) r1 (.l k1 (dpa_mono x2.F _ _ h2) k2 h4 k3 hh2 hh1)
end
def parSet : List Nat → List PV → En → Option En
  | [], [], en => some en
  | i :: is, .d x :: r, en => if open_ en i then parSet is r (en.set i (some (.d x))) else none
  | i :: is, .l xs :: r, en => if open_ en i then parSet is r (en.set i (some (.l xs))) else none
  | _, _, _ => none
def setAll : List Nat → List V → St → St
  | i :: is, v :: vs, σ => setAll is vs (σ.set i (some v))
  | _, _, σ => σ
def sPar (is : List Nat) (f : PF) : SF := fun en => (f en).bind fun p => (parSet is p.1 p.2).bind fun en' => some (.nx, en')
theorem unowned_d {σ : St} {en : En} {a : Addr} {i : Nat} {v : V} {x : PyData} (h : Unowned σ en a) : Unowned (σ.set i (some v)) (en.set i (some (.d x))) a := fun k xs hk hq => by
  by_cases e : k = i
  · subst e
    rw [live_set_d] at hk
    cases hk
  · rw [live_set_ne e] at hk
    rw [List.getElem?_set_ne (fun z => e z.symm)] at hq
    exact h k xs hk hq
theorem unowned_l {σ : St} {en : En} {a b : Addr} {i : Nat} {ys : List PyData} (h : Unowned σ en a) (hne : a ≠ b) : Unowned (σ.set i (some (.ref b))) (en.set i (some (.l ys))) a := fun k xs hk hq => by
  by_cases e : k = i
  · subst e
    rw [List.getElem?_set] at hq
    rw [if_pos rfl] at hq
    split at hq
    · cases hq; exact hne rfl
    · cases hq
  · rw [live_set_ne e] at hk
    rw [List.getElem?_set_ne (fun z => e z.symm)] at hq
    exact h k xs hk hq
theorem par_set {K : PySem.W.Frag} {W : Wd} {H : Hp} : ∀ {is : List Nat} {r : List PV} {vs : List V} {σ : St} {en en' : En}, R K W σ H en → Held K W H σ en vs r → parSet is r en = some en' → R K W (setAll is vs σ) H en'
  | [], [], _, σ, en, en', hR, .nil, e => by cases e; exact hR
  | [], _ :: _, _, σ, en, en', _, _, e => by simp [parSet] at e
  | i :: is, [], _, σ, en, en', _, _, e => by simp [parSet] at e
  | i :: is, _, _, σ, en, en', hR, .d (v := v) (x := x) hd h, e => by
    simp only [parSet] at e
    split at e
    · rename_i ho
      have q := par_set (hR.setD ho hd) (h.set fun a _ hu => unowned_d hu) e
      exact q
    · cases e
  | i :: is, _, _, σ, en, en', hR, .l (a := a) e1 e2 e3 e4 e5 e6 h, e => by
    simp only [parSet] at e
    split at e
    · rename_i ho
      have q := par_set (hR.setL ho e1 e2 e3 e4 e5) (h.set fun b hb hu => unowned_l hu fun z => e6 (by rw [← z]; exact hb)) e
      exact q
    · cases e
theorem parSet_length : ∀ {is : List Nat} {r : List PV} {en en' : En}, parSet is r en = some en' → is.length = r.length
  | [], [], en, en', e => rfl
  | [], _ :: _, en, en', e => by simp [parSet] at e
  | i :: is, [], en, en', e => by simp [parSet] at e
  | i :: is, .d x :: r, en, en', e => by
    simp only [parSet] at e
    split at e
    · simp [parSet_length e]
    · cases e
  | i :: is, .l x :: r, en, en', e => by
    simp only [parSet] at e
    split at e
    · simp [parSet_length e]
    · cases e
section
variable {X : Cx}
/-- a, b = e1, e2: plain local names on one line -/
theorem ss_par {i j : Nat} {x y : Str} {a b : Expr} {f : PF} {px py pt pos : Pos} {kt k2 pt2} (hc : X.calm = true) (hN : X.N.Nodup) (h : SP X [a, b] f) (hij : i ≠ j) (hi : X.N[i]? = some x := by rfl) (hj : X.N[j]? = some y := by rfl)
    (hx : X.env.scope.names.lookup x = some .local := by rfl) (hy : X.env.scope.names.lookup y = some .local := by rfl)
    (hw : swappedStores [.Tuple [.Name x px, .Name y py] kt pt] (.Tuple [a, b] k2 pt2) X.env = pure (some [x, y]) := by rfl)
    (hs : swapsWithSole [.Tuple [.Name x px, .Name y py] kt pt] (.Tuple [a, b] k2 pt2) pos.line X.env = pure false := by rfl) :
    SS X (.Assign [.Tuple [.Name x px, .Name y py] kt pt] (.Tuple [a, b] k2 pt2) pos) (sPar [i, j] f) := by
  obtain ⟨t, hp, ht⟩ := h.run
  refine ⟨_, ps_par hc hN hi hj hij hx hy hp hw hs, fun W σ H en o en' D hR hf q => ?_⟩
  simp only [sPar, Option.bind_eq_some_iff] at hf
  obtain ⟨⟨r, en1⟩, e1, en2, e2, hf⟩ := hf
  cases hf
  refine ht W σ H en r en1 _ hR e1 fun vs W1 H1 x1 R1 hh => ?_
  have l := hh.length
  have l2 := parSet_length e2
  match vs, l, hh with
  | [v, w], _, hh => exact ⟨v, w, rfl, q W1 _ H1 x1 (par_set R1 hh e2)⟩
  | [], l, _ => simp at l l2; omega
  | [_], l, _ => simp at l l2; omega
  | _ :: _ :: _ :: _, l, _ => simp at l l2; omega
theorem ss_par3 {i j l : Nat} {x y z : Str} {a b c : Expr} {f : PF} {px py pz pt pos : Pos} {kt k2 pt2} (hc : X.calm = true) (hN : X.N.Nodup) (h : SP X [a, b, c] f) (hij : i ≠ j) (hil : i ≠ l) (hjl : j ≠ l) (hi : X.N[i]? = some x := by rfl) (hj : X.N[j]? = some y := by rfl) (hl : X.N[l]? = some z := by rfl)
    (hx : X.env.scope.names.lookup x = some .local := by rfl) (hy : X.env.scope.names.lookup y = some .local := by rfl) (hz : X.env.scope.names.lookup z = some .local := by rfl)
    (hw : swappedStores [.Tuple [.Name x px, .Name y py, .Name z pz] kt pt] (.Tuple [a, b, c] k2 pt2) X.env = pure (some [x, y, z]) := by rfl)
    (hs : swapsWithSole [.Tuple [.Name x px, .Name y py, .Name z pz] kt pt] (.Tuple [a, b, c] k2 pt2) pos.line X.env = pure false := by rfl) :
    SS X (.Assign [.Tuple [.Name x px, .Name y py, .Name z pz] kt pt] (.Tuple [a, b, c] k2 pt2) pos) (sPar [i, j, l] f) := by
  obtain ⟨t, hp, ht⟩ := h.run
  refine ⟨_, ps_par3 hc hN hi hj hl hij hil hjl hx hy hz hp hw hs, fun W σ H en o en' D hR hf q => ?_⟩
  simp only [sPar, Option.bind_eq_some_iff] at hf
  obtain ⟨⟨r, en1⟩, e1, en2, e2, hf⟩ := hf
  cases hf
  refine ht W σ H en r en1 _ hR e1 fun vs W1 H1 x1 R1 hh => ?_
  have l := hh.length
  have l2 := parSet_length e2
  match vs, l, hh with
  | [v, w, u], _, hh => exact ⟨v, w, u, rfl, q W1 _ H1 x1 (par_set R1 hh e2)⟩
  | [], l, _ => simp at l l2; omega
  | [_], l, _ => simp at l l2; omega
  | [_, _], l, _ => simp at l l2; omega
  | _ :: _ :: _ :: _ :: _, l, _ => simp at l l2; omega
end
/-! the same through the tuple itself (names that comprehensions read, more than three, ..) -/
def gNames : List Nat → TGs
  | [] => gNil
  | i :: is => gCons (gName i) (gNames is)
theorem gNames_run : ∀ {is : List Nat} {vs : List V} {σ : St} {H : Hp} {Q : St → Hp → Prop}, is.length = vs.length → Q (setAll is vs σ) H → gNames is vs σ H Q
  | [], [], σ, H, Q, _, q => ⟨rfl, q⟩
  | [], _ :: _, σ, H, Q, h, _ => by simp at h
  | _ :: _, [], σ, H, Q, h, _ => by simp at h
  | i :: is, v :: vs, σ, H, Q, h, q => ⟨v, vs, rfl, gNames_run (by simpa using h) q⟩
structure SN (X : Cx) (ts : List Expr) (is : List Nat) : Prop where
  run : PGs X ts (gNames is)
theorem setAll_unowned {σ : St} {is : List Nat} {vs : List V} : (setAll is vs σ).length = σ.length := by
  induction is generalizing vs σ with
  | nil => simp [setAll]
  | cons i is ih =>
    cases vs with
    | nil => simp [setAll]
    | cons v vs => simp [setAll, ih]
section
variable {X : Cx}
theorem sn_nil : SN X [] [] := ⟨pgs_nil⟩
theorem sn_cons {i : Nat} {x : Str} {pos : Pos} {es : List Expr} {is : List Nat} (hN : X.N.Nodup) (k : SN X es is) (hi : X.N[i]? = some x := by rfl) (hx : Loc X.env.scope x := by first | exact Or.inl rfl | exact Or.inr rfl) (hf : X.fn x = true ∨ X.env.scope.names.lookup x = some .local := by first | exact .inl rfl | exact .inr rfl)
    (hs : (assignEach (.Name x pos :: es) X.env).map (·.2) = assign (.Name x pos) X.env :: (assignEach es X.env).map (·.2) := by rfl) : SN X (.Name x pos :: es) (i :: is) := ⟨pgs_cons (pg_name hN hi hx hf) k.run hs⟩
theorem ss_parT {ts es : List Expr} {is : List Nat} {f : PF} {n : Nat} {kt k2 : Nat} {pt pt2 pos : Pos} (hc : X.calm = true) (hg : SN X ts is) (h : SP X es f) (hlen : is.length = n) (hz : n ≤ sizeLine) (hn : (assignEach ts X.env).length = n := by rfl) (hst : (assignEach ts X.env).findIdx? (·.1) = none := by rfl)
    (hs : swapsWithSole [.Tuple ts kt pt] (.Tuple es k2 pt2) pos.line X.env = pure false := by rfl) (hw : swappedStores [.Tuple ts kt pt] (.Tuple es k2 pt2) X.env = pure none := by rfl) (h1 : (assignEach [.Tuple ts kt pt] X.env).map (·.2) = [assign (.Tuple ts kt pt) X.env] := by rfl) :
    SS X (.Assign [.Tuple ts kt pt] (.Tuple es k2 pt2) pos) (sPar is f) := by
  obtain ⟨t, hp, ht⟩ := h.run
  refine ⟨_, ps_asg (pe_tup hp) (pg_tup hc hg.run hn hst) hs hw h1, fun W σ H en o en' D hR hf q => ?_⟩
  simp only [sPar, Option.bind_eq_some_iff] at hf
  obtain ⟨⟨r, en1⟩, e1, en2, e2, hf⟩ := hf
  cases hf
  refine ht W σ H en r en1 _ hR e1 fun vs W1 H1 x1 R1 hh => ?_
  have l := hh.length
  have l2 := parSet_length e2
  refine ⟨by rw [l]; simp at l2; omega, fun p hp' => ⟨p, vs, rfl, .of upd_same, by rw [l]; simp at l2; omega, ?_⟩⟩
  refine gNames_run (by simp at l2; omega) ?_
  have R2' : R X.K W1 σ (upd H1 p (.tup vs)) en1 := R1.laid _ hp'
  have hh2 : Held X.K W1 (upd H1 p (.tup vs)) σ en1 vs r := hh.laid hp'
  exact q W1 _ _ x1 (par_set R2' hh2 e2)
end

/-! ### a def by its name -/
structure Cal (P : Program) (w : World) (K : PySem.W.Frag) (mg : Str → Option Value) (base : Heap) (k : Nat) (x : Str) (g : SF) (m n : Nat) (dd : List PyData) : Prop where
  ex : ∃ (f : Addr) (fd : FuncData) (ps : List Str) (ds : List Value) (dvs : List V), ps.length = m ∧ FnG P w K mg base k f fd ps (spF K g ps.length n) ∧ mg x = some (.ref f) ∧ PySem.W.keepIn K (.ref f) = true ∧ Binds K fd ps ds ∧ Vals dvs ds ∧ ∀ F : Hp, DqAll K F dvs dd
theorem se_c {X : Cx} {j k : Nat} {x : Str} {p pos : Pos} {e : Expr} {es : List Expr} {g : SF} {m n : Nat} {dd : List PyData} {ff : AF} (c : Cal X.prog X.w X.K X.mg X.base k x g m n dd) (hr : Room j X.A) (hk : k ≤ j) (hgd : X.A.guards = some []) (hg : Gl X x) (ha : SA X (e :: es) ff)
    (hdb : (x == ("__debug__" : Str)) = false := by decide) (he : starEach (e :: es) X.env = (false, eval e X.env) :: starEach es X.env := by rfl) (hpl : (backTo pos (starEach es X.env)).any (·.1) = false := by rfl) : SE X (.Call (.Name x p) (e :: es) [] pos) (fCall g m n dd ff) := by
  obtain ⟨f, fd, ps, ds, dvs, hm, F, h1, h2, h3, h4, h5⟩ := c.ex
  subst hm
  exact se_call F (hr.mono hk) hgd hg h1 h2 h3 h4 h5 ha hdb he hpl
/-- a def of the text behind the top: its object, its name -/
structure Df (K : PySem.W.Frag) (mg : Str → Option Value) (x : Str) (st : Stmt) (dvs : List V) (f : Addr) (fd : FuncData) : Prop where
  fn : FunD K x x (defArgs st) (defBody st) (defScope st) dvs [] f fd
  mgf : mg x = some (.ref f)
theorem cal_of {P : Program} {w : World} {K : PySem.W.Frag} {mg : Str → Option Value} {base : Heap} {x : Str} {st : Stmt} {f : Addr} {fd : FuncData} {k n m : Nat} {ps : List Str} {g : SF} (D : Df K mg x st [] f fd) (G : FnG P w K mg base k f fd ps (spF K g ps.length n)) (hm : ps.length = m)
    (h : ∀ (kV doc pm : Value) (an : Option Addr) (cdv ct : Value) (us : List Value), us.length = ps.length → bindArgs (PySem.W.fnOf x x (defArgs st) (defBody st) (defScope st) .none kV doc pm an cdv ct) ⟨us, []⟩ = pure (ps.zip us)) : Cal P w K mg base k x g m n [] :=
  ⟨f, fd, ps, [], [], hm, G, D.mgf, D.fn.kp, D.fn.bindsN h, .nil, fun _ => .nil⟩
theorem calD_of {P : Program} {w : World} {K : PySem.W.Frag} {mg : Str → Option Value} {base : Heap} {x : Str} {st : Stmt} {f : Addr} {fd : FuncData} {k n m c j : Nat} {ps : List Str} {g : SF} {dvs : List V} {dd : List PyData} (D : Df K mg x st dvs f fd) (G : FnG P w K mg base k f fd ps (spF K g ps.length n)) (hm : ps.length = m)
    (hd : dvs ≠ []) (hn : c + (dvs.length - j) = ps.length) (hdd : ∀ F : Hp, DqAll K F (dvs.drop j) dd)
    (h : ∀ (T : Addr) (kV doc pm : Value) (an : Option Addr) (cdv ct : Value) (us its : List Value), us.length = c → its.length = dvs.length →
      ∃ k, bindArgs (PySem.W.fnOf x x (defArgs st) (defBody st) (defScope st) (.ref T) kV doc pm an cdv ct) ⟨us, []⟩ = seqItems? (.ref T) >>= k ∧ k (some its.toArray) = pure (ps.zip (us ++ its.drop j))) : Cal P w K mg base k x g m n dd := by
  obtain ⟨ds, h1, h2⟩ := D.fn.binds1 c j hd hn h
  exact ⟨f, fd, ps, ds, _, hm, G, D.mgf, D.fn.kp, h2, h1, hdd⟩
end L2.FL
set_option Elab.async false
set_option linter.all false
set_option maxRecDepth 100000
set_option maxHeartbeats 2000000
/-! FL17: a list unpacked; defs that give a list of their own. -/
namespace L2.FL
open PySem PySem.Spec PyProof.Rows L2

def gUnl' (f : GsF) : GF := fun x en => match x with
  | .list xs => f xs en
  | _ => none
section
variable {X : Cx}
theorem sg_unl {es : List Expr} {k : Nat} {f : GsF} {ws : List Nat} {n : Nat} {pos : Pos} (hc : X.calm = true) (h : SGs X es f ws) (hn : (assignEach es X.env).length = n := by rfl) (hst : (assignEach es X.env).findIdx? (·.1) = none := by rfl)
    (hl : ∀ xs en en', f xs en = some en' → xs.length = n) : SG X (.Tuple es k pos) (gUnl' f) ws := by
  obtain ⟨t, hp, ht⟩ := h.run
  refine ⟨_, pg_unl hc hp hn hst, ⟨fun W σ H en v x en' Q hR hd he q => ?_⟩⟩
  unfold gUnl' at he
  split at he
  · rename_i xs
    cases hd with
    | lst h1 h2 => exact ⟨_, _, rfl, same_rd hR.subF h1, by rw [dpa_length h2]; exact hl _ _ _ he, ht.go W σ H en _ xs en' _ hR h2 he q⟩
  · cases he
end
/-! ### a body that gives a list of its own -/
def SSLt (K : PySem.W.Frag) (t : TS) (h : LF) : Prop := ∀ (W : Wd) (σ : St) (H : Hp) (en : En) (xs : List PyData) (en' : En) (D : Ends), R K W σ H en → h en = some (xs, en') →
  (∀ a ws W' σ' H', Ext W W' → R K W' σ' H' en' → H' a = some (.lst ws) → DqAll K W'.F ws xs → W'.F a = none → W'.G a = none → D.rt (.ref a) H') → t D σ H
structure SSL (X : Cx) (sts : List Stmt) (h : LF) : Prop where
  run : ∃ t, PSs X sts t ∧ SSLt X.K t h
def hSeq (f : SF) (h : LF) : LF := fun en => (f en).bind fun p => match p.1 with
  | .nx => h p.2
  | _ => none
section
variable {X : Cx}
theorem ssl_ret {e : Expr} {f : LF} {pos : Pos} (h : SL X e f) : SSL X [.Return (some e) pos] f := by
  obtain ⟨t, hp, ht⟩ := h.run
  exact ⟨_, pss_one (ps_ret hp), fun W σ H en xs en' D hR hf q => ht W σ H en xs en' _ hR hf fun a ws W1 H1 x1 R1 h1 h2 h3 h4 _ => q a ws W1 σ H1 x1 R1 h1 h2 h3 h4⟩
theorem ssl_cons {st : Stmt} {rest : List Stmt} {f : SF} {h : LF} (a : SS X st f) (b : SSL X rest h) : SSL X (st :: rest) (hSeq f h) := by
  obtain ⟨t, hp, ht⟩ := a.run
  obtain ⟨u, hq, hu⟩ := b.run
  refine ⟨_, pss_cons hp hq, fun W σ H en xs en' D hR hf q => ?_⟩
  simp only [hSeq, Option.bind_eq_some_iff] at hf
  obtain ⟨⟨o, en1⟩, e1, hf⟩ := hf
  simp only at hf
  split at hf
  · exact ht W σ H en _ en1 _ hR e1 fun W1 σ1 H1 x1 R1 => hu W1 σ1 H1 en1 xs en' D R1 hf fun a ws W2 σ2 H2 x2 R2' => q a ws W2 σ2 H2 (x1.trans x2) R2'
  · cases hf
end
def datS (xs : List PyData) : List SV := xs.map .d
theorem outP_dat : ∀ (xs : List PyData) (en : En), outP (datS xs) en = datS xs
  | [], _ => rfl
  | x :: r, en => by
    have := outP_dat r en.tail
    simp only [datS, List.map_cons, outP] at this ⊢
    rw [this]
theorem parsOf_dat : ∀ (xs : List PyData) (vs : List V) (i : Nat), parsOf i (datS xs) vs = []
  | [], vs, i => by cases vs <;> rfl
  | x :: r, [], i => rfl
  | x :: r, v :: vs, i => by
    show parsOf (i + 1) (datS r) vs = []
    exact parsOf_dat r vs (i + 1)
theorem noL_dat : ∀ (xs : List PyData), noL (datS xs) = true
  | [] => rfl
  | x :: r => by
    show noL (datS r) = true
    exact noL_dat r
def spFL (K : PySem.W.Frag) (h : LF) (m n : Nat) : Sp := fun vs H Q _ => ∃ (W : Wd) (args : List PyData) (xs : List PyData) (en' : En), args.length = m ∧ W.P = [] ∧ R K W (vs.map some) H ((datS args).map some) ∧ h ((datS args).map some ++ List.replicate n none) = some (xs, en') ∧
  ∀ a ws W' H', Ext W W' → R K W' (vs.map some) H' ((datS args).map some) → H' a = some (.lst ws) → DqAll K W'.F ws xs → W'.F a = none → W'.G a = none → Q (.ref a) H'
structure CalL (P : Program) (w : World) (K : PySem.W.Frag) (mg : Str → Option Value) (base : Heap) (k : Nat) (x : Str) (h : LF) (m n : Nat) : Prop where
  ex : ∃ (f : Addr) (fd : FuncData) (ps : List Str), ps.length = m ∧ FnG P w K mg base k f fd ps (spFL K h ps.length n) ∧ mg x = some (.ref f) ∧ PySem.W.keepIn K (.ref f) = true ∧ Binds K fd ps []
section
variable {P : Program} {w : World} {K : PySem.W.Frag} {mg : Str → Option Value} {base : Heap}
theorem okL_def {x qual : Str} {params : Arguments} {body : List Stmt} {scope : Scope} {dvs : List V} {kws : List (Str × V)} {f : Addr} {fd : FuncData} {N ps : List Str} {k : Nat} {g : LF} {n : Nat} (F : FunD K x qual params body scope dvs kws f fd) (S : FnScope N ps scope) (hn : N.length = ps.length + n)
    (hbody : ∀ (cdv : Value) (A : Around) (outer : List Env) (s : Shared) (H : Hp) (E : XK), Room k (A.deeper (envOfC qual scope s.heap.objs.size f cdv)) → (A.deeper (envOfC qual scope s.heap.objs.size f cdv)).guards = some [] →
      SSL (cxOf CX0 P w K mg base N qual scope f cdv A outer s H E).nox body g) : FnG P w K mg base (k + 1) f fd ps (spFL K g ps.length n) := by
  obtain ⟨oc, od, dV, kV, doc, pm, an, cdv, ct, osl, rfl, lk, hcd, _, _⟩ := F.ex
  refine fn_ofG lk hcd S (fun vs H Q E h => ?_) fun A outer s H vs Q E hr hg hsp => ?_
  · obtain ⟨W, as, y, as', hl, _, hR, _⟩ := h
    have := hR.len
    simp only [List.length_map, datS] at this
    omega
  · obtain ⟨W, as, xs, en', hl, hP, hR, hf, q⟩ := hsp
    obtain ⟨t, ht, hs⟩ := (hbody cdv A outer s H E hr hg).run
    refine ⟨t, ht.nox, ?_⟩
    have hlen := hR.len
    simp only [List.length_map, datS] at hlen
    have e0 : start N vs = vs.map some ++ List.replicate n none := by
      unfold start
      rw [show N.length - vs.length = n by omega]
    rw [e0]
    refine hs W _ H _ xs en' _ (hR.more n) hf fun a ws W' σ' H' x' R' h1 h2 h3 h4 => ?_
    have Rp := hR.params (by rw [hP, parsOf_dat]) (noL_dat as) x' R'
    rw [outP_dat] at Rp
    exact q a ws W' H' x' Rp h1 h2 h3 h4
theorem calL_of {x : Str} {st : Stmt} {f : Addr} {fd : FuncData} {k n m : Nat} {ps : List Str} {g : LF} (D : Df K mg x st [] f fd) (G : FnG P w K mg base k f fd ps (spFL K g ps.length n)) (hm : ps.length = m)
    (h : ∀ (kV doc pm : Value) (an : Option Addr) (cdv ct : Value) (us : List Value), us.length = ps.length → bindArgs (PySem.W.fnOf x x (defArgs st) (defBody st) (defScope st) .none kV doc pm an cdv ct) ⟨us, []⟩ = pure (ps.zip us)) : CalL P w K mg base k x g m n :=
  ⟨f, fd, ps, hm, G, D.mgf, D.fn.kp, D.fn.bindsN h⟩
end
def noLv (en : En) : Bool := en.all fun o => match o with
  | some (.l _) => false
  | some (.p _) => false
  | _ => true
theorem noLv_live {en : En} (h : noLv en = true) {i : Nat} {xs : List PyData} : live en i ≠ some xs := fun e => by
  have go : ∀ o, en[i]? = some o → (match o with | some (.l _) => false | some (.p _) => false | _ => true) = true := fun o ho => List.all_eq_true.mp h o (List.mem_of_getElem? ho)
  rcases live_of_get e with z | z
  · exact absurd (go _ z) Bool.false_ne_true
  · exact absurd (go _ z) Bool.false_ne_true
def fCallL (h : LF) (m n : Nat) (f : AF) : LF := fun en => (f en).bind fun p => (datL p.1).bind fun xs => if noLv p.2 = true ∧ xs.length = m then (h ((datS xs).map some ++ List.replicate n none)).bind fun r => some (r.1, p.2) else none
theorem dats {K : PySem.W.Frag} {F : Hp} {σ : St} : ∀ {vs : List V} {rs : List RV} {xs : List PyData}, RVals K F σ vs rs → datL rs = some xs → DqAll K F vs xs
  | _, _, _, .nil, e => by cases e; exact .nil
  | _, .d x :: rs, _, .cons h t, e => by
    simp only [datL, Option.bind_eq_some_iff] at e
    obtain ⟨ys, e1, e⟩ := e
    cases e
    exact .cons h (dats t e1)
  | _, .b i :: rs, _, .cons h t, e => by simp [datL] at e
theorem sl_call0 {X : Cx} {j k : Nat} {x : Str} {p pos : Pos} {e : Expr} {es : List Expr} {g : LF} {m n : Nat} {ff : AF} (c : CalL X.prog X.w X.K X.mg X.base k x g m n) (hr : Room j X.A) (hk : k ≤ j) (hgd : X.A.guards = some []) (hg : Gl X x) (ha : SA X (e :: es) ff)
    (hdb : (x == ("__debug__" : Str)) = false := by decide) (he : starEach (e :: es) X.env = (false, eval e X.env) :: starEach es X.env := by rfl) (hpl : (backTo pos (starEach es X.env)).any (·.1) = false := by rfl) : SL X (.Call (.Name x p) (e :: es) [] pos) (fCallL g m n ff) := by
  obtain ⟨f, fd, ps, hm, F, h1, h2, h3⟩ := c.ex
  subst hm
  obtain ⟨t, hp, ht⟩ := ha.run
  refine ⟨_, pe_callG F (hr.mono hk) hgd hg h1 h2 h3 .nil hp hdb he hpl, fun W σ H en zs en' Q hR hf q => ?_⟩
  simp only [fCallL, Option.bind_eq_some_iff] at hf
  obtain ⟨⟨rs, en1⟩, e1, xs, e2, hf⟩ := hf
  simp only at hf
  split at hf
  · rename_i hk2
    obtain ⟨hnl, hlen⟩ := hk2
    simp only [Option.bind_eq_some_iff] at hf
    obtain ⟨⟨ys, en2⟩, e3, hf⟩ := hf
    simp only [Option.some.injEq, Prod.mk.injEq] at hf
    obtain ⟨rfl, rfl⟩ := hf
    refine ht W σ H en rs en1 _ hR e1 fun vs W1 H1 x1 R1 v1 => ?_
    have hd := dats v1 e2
    have ge : ∀ {i : Nat} {s : SV}, ((datS xs).map some)[i]? = some (some s) → ∃ y, s = .d y ∧ xs[i]? = some y := fun {i s} hh => by
      simp only [datS, List.map_map, List.getElem?_map, Option.map_eq_some_iff] at hh
      obtain ⟨y, hy, hz⟩ := hh
      simp only [Function.comp, Option.some.injEq] at hz
      exact ⟨y, hz.symm, hy⟩
    have nol : ∀ {i : Nat} {ws : List PyData}, live ((datS xs).map some) i ≠ some ws := fun {i ws} hh => by
      rcases live_of_get hh with z | z
      · obtain ⟨_, q1, _⟩ := ge z; cases q1
      · obtain ⟨_, q1, _⟩ := ge z; cases q1
    have Rc : R X.K { F := W1.F, G := W1.G, P := [] } ((vs ++ []).map some) H1 ((datS xs).map some) := by
      rw [List.append_nil]
      refine ⟨by simp [datS, dpa_length hd], R1.subF, R1.subG, R1.dis, fun i y hh => ?_, fun i ws hh => absurd hh nol, fun i j a ws us hh => absurd hh nol, (fun q hq => by cases hq)⟩
      obtain ⟨y', q1, q2⟩ := ge hh
      cases q1
      obtain ⟨v, k1, k2⟩ := dpa_get hd q2
      exact ⟨v, by rw [List.getElem?_map, k1]; rfl, k2⟩
    refine ⟨_, xs, ys, en2, hlen, rfl, Rc, e3, fun a ws W2 H2 x2 R2' k1 k2 k3 k4 => ?_⟩
    have Rf : R X.K { F := W2.F, G := W1.G, P := W1.P } σ H2 en1 := by
      refine ⟨R1.len, R2'.subF, fun a o h => R2'.subG a o (by rw [x2.G]; exact h), fun a o h => by have := R2'.dis a o h; rw [x2.G] at this; exact this, fun i y hh => ?_, fun i us hh => absurd hh (noLv_live hnl), fun i j a us ws hh => absurd hh (noLv_live hnl), fun u hu => ?_⟩
      · obtain ⟨v, g1, g2⟩ := R1.dat i y hh
        exact ⟨v, g1, dp_mono x2.F _ _ g2⟩
      · obtain ⟨_, us, hh⟩ := R1.par u hu
        exact absurd (live_p hh) (noLv_live hnl)
    exact q a ws { F := W2.F, G := W1.G, P := W1.P } H2 (x1.trans ⟨x2.F, rfl, rfl⟩) Rf k1 k2 k3 (by rw [x2.G] at k4; exact k4) fun i us hh => absurd hh (noLv_live hnl)
  · cases hf
end L2.FL
set_option Elab.async false
set_option linter.all false
set_option maxRecDepth 100000
set_option maxHeartbeats 2000000
/-! FL18: how the readings reckon. -/
namespace L2.FL
open PySem PySem.Spec PyProof.Rows L2

section
variable {i m n : Nat} {en : En} {x y : PyData} {xs ys : List PyData} {f g h : EF} {l l' : LF} {c c' : TF} {a b : SF} {q : AF} {o o' : PyData → PyData → Option PyData} {o1 : PyData → Option PyData} {oL : List PyData → Option PyData} {p : PF} {w : OF} {t : GF} {ts : GsF} {it : IF}
@[simp] theorem x_fVar : fVar i en = (match en[i]? with
  | some (some (.d x)) => some (.d x, en)
  | some (some (.l _)) => some (.b i, en)
  | some (some (.p _)) => some (.b i, en)
  | _ => none) := rfl
@[simp] theorem x_fFrz : fFrz i en = (match en[i]? with
  | some (some (.l xs)) => some (.d (.list xs), en.set i (some (.d (.list xs))))
  | some (some (.d x)) => some (.d x, en)
  | _ => none) := rfl
@[simp] theorem x_fC : fC x en = some (.d x, en) := rfl
@[simp] theorem x_fOfL : fOfL l en = (l en).bind fun p => some (.d (.list p.1), p.2) := rfl
@[simp] theorem x_f1 : f1 o1 f en = (f en).bind fun p => (res p.2 p.1).bind fun x => (o1 x).bind fun z => some (.d z, p.2) := rfl
@[simp] theorem x_f2 : f2 o f g en = (f en).bind fun p => (g p.2).bind fun q => (res q.2 p.1).bind fun x => (res q.2 q.1).bind fun y => (o x y).bind fun z => some (.d z, q.2) := rfl
@[simp] theorem x_fNil : fNil en = some ([], en) := rfl
@[simp] theorem x_fCons : fCons f q en = (f en).bind fun p => (q p.2).bind fun q => some (p.1 :: q.1, q.2) := rfl
@[simp] theorem x_fB : fB oL q en = (q en).bind fun p => (resL p.2 p.1).bind fun xs => (oL xs).bind fun z => some (.d z, p.2) := rfl
@[simp] theorem x_fTup : fTup q en = (q en).bind fun p => (datL p.1).bind fun xs => if xs.length ≤ sizeLine then some (.d (.tuple xs), p.2) else none := rfl
@[simp] theorem x_fLst : fLst q en = (q en).bind fun p => (datL p.1).bind fun xs => if xs.length ≤ sizeLine then some (xs, p.2) else none := rfl
@[simp] theorem x_fBool : fBool f en = (f en).bind fun p => (res p.2 p.1).bind fun x => match x with
  | .bool b => some (b, p.2)
  | _ => none := rfl
@[simp] theorem x_fTru : fTru f en = (f en).bind fun p => (res p.2 p.1).bind fun x => (tru x).bind fun b => some (b, p.2) := rfl
@[simp] theorem x_fAnd : fAnd c c' en = (c en).bind fun p => if p.1 = true then c' p.2 else some (false, p.2) := rfl
@[simp] theorem x_fOr : fOr c c' en = (c en).bind fun p => if p.1 = true then some (true, p.2) else c' p.2 := rfl
@[simp] theorem x_fNot : fNot c en = (c en).bind fun p => some (!p.1, p.2) := rfl
@[simp] theorem x_fIfE : fIfE c f g en = (c en).bind fun p => if p.1 = true then f p.2 else g p.2 := rfl
@[simp] theorem x_fNotT : fNotT f en = (f en).bind fun p => (res p.2 p.1).bind fun x => (tru x).bind fun b => some (.d (.bool !b), p.2) := rfl
@[simp] theorem x_fOrT : fOrT f g en = (f en).bind fun p => (res p.2 p.1).bind fun x => (tru x).bind fun b => if b = true then some p else g p.2 := rfl
@[simp] theorem x_fAndT : fAndT f g en = (f en).bind fun p => (res p.2 p.1).bind fun x => (tru x).bind fun b => if b = true then g p.2 else some p := rfl
@[simp] theorem x_fIsN : fIsN f en = (f en).bind fun p => (res p.2 p.1).bind fun x => some (.d (.bool (isN x)), p.2) := rfl
@[simp] theorem x_fNotN : fNotN f en = (f en).bind fun p => (res p.2 p.1).bind fun x => some (.d (.bool (!isN x)), p.2) := rfl
@[simp] theorem x_fChain : fChain o o' f g h en = (f en).bind fun p => (g p.2).bind fun q => (res q.2 p.1).bind fun x => (res q.2 q.1).bind fun y => (o x y).bind fun z => match z with
  | .bool true => (h q.2).bind fun s => (res s.2 q.1).bind fun y' => (res s.2 s.1).bind fun u => (o' y' u).bind fun t => some (.d t, s.2)
  | .bool false => some (.d (.bool false), q.2)
  | _ => none := rfl
@[simp] theorem x_fYes : fYes en = some (true, en) := rfl
@[simp] theorem x_fNoPart : fNoPart en = some (none, en) := rfl
@[simp] theorem x_fPart : fPart f en = (f en).bind fun p => match p.1 with
  | .d (.int i) => some (some i, p.2)
  | _ => none := rfl
@[simp] theorem x_fSl {w w' : OF} : fSl f w w' en = (f en).bind fun p => (w p.2).bind fun q => (w' q.2).bind fun r => (res r.2 p.1).bind fun x => match x with
  | .tuple xs => some (.d (.tuple (cutD xs q.1 r.1)), r.2)
  | .list xs => some (.d (.list (cutD xs q.1 r.1)), r.2)
  | .str z => if z.length ≤ sizeLine then some (.d (.str (cutS z q.1 r.1)), r.2) else none
  | _ => none := rfl
@[simp] theorem x_fBL {oo : List PyData → Option (List PyData)} : fBL oo q en = (q en).bind fun p => (resL p.2 p.1).bind fun xs => (oo xs).bind fun zs => some (zs, p.2) := rfl
@[simp] theorem x_fMethL : fMethL o f g en = (f en).bind fun p => (res p.2 p.1).bind fun x0 => if isLst x0 = true then (g p.2).bind fun q => (res q.2 p.1).bind fun x => (res q.2 q.1).bind fun y => (o x y).bind fun z => some (.d z, q.2) else none := rfl
@[simp] theorem x_gSet : gSet i x en = if open_ en i then some (en.set i (some (.d x))) else none := rfl
@[simp] theorem x_gNil : gNil' [] en = some en := rfl
@[simp] theorem x_gCons : gCons' t ts (x :: xs) en = (t x en).bind fun en1 => ts xs en1 := rfl
@[simp] theorem x_gTup : gTup' ts (.tuple xs) en = ts xs en := rfl
@[simp] theorem x_gUnl : gUnl' ts (.list xs) en = ts xs en := rfl
@[simp] theorem x_gIx : gIx i f y en = (live en i).bind fun _ => (f en).bind fun q => (asInt q.1).bind fun k => (live q.2 i).bind fun xs => (ixN xs.length k).bind fun j => some (putL q.2 i (xs.set j y)) := rfl
@[simp] theorem x_sNil : sNil en = some (.nx, en) := rfl
@[simp] theorem x_sSeq : sSeq a b en = (a en).bind fun p => match p.1 with
  | .nx => b p.2
  | o => some (o, p.2) := rfl
@[simp] theorem x_sIf : sIf c a b en = (c en).bind fun p => if p.1 = true then a p.2 else b p.2 := rfl
@[simp] theorem x_sRet : sRet f en = (f en).bind fun p => match p.1 with
  | .d x => some (.rt x, p.2)
  | _ => none := rfl
@[simp] theorem x_sRetN : sRetN en = some (.rt .none, en) := rfl
@[simp] theorem x_sDrop : sDrop f en = (f en).bind fun p => some (.nx, p.2) := rfl
@[simp] theorem x_sAsg : sAsg t f en = (f en).bind fun p => match p.1 with
  | .d x => (t x p.2).bind fun en' => some (.nx, en')
  | _ => none := rfl
@[simp] theorem x_sAsgL : sAsgL i l en = (l en).bind fun p => if open_ p.2 i then some (.nx, p.2.set i (some (.l p.1))) else none := rfl
@[simp] theorem x_sNever : sNever en = none := rfl
@[simp] theorem x_sBreak : sBreak en = some (.bk, en) := rfl
@[simp] theorem x_sCont : sCont en = some (.ct, en) := rfl
@[simp] theorem x_sAug : sAug i o f en = (match en[i]? with
  | some (some (.d x)) => (f en).bind fun p => (res p.2 p.1).bind fun y => (o x y).bind fun z => if open_ p.2 i then some (.nx, p.2.set i (some (.d z))) else none
  | _ => none) := rfl
@[simp] theorem x_sFor : sFor it t b en = (it en).bind fun p => forL t b p.1 p.2 := rfl
@[simp] theorem x_sApp : sApp i f en = (live en i).bind fun _ => (f en).bind fun p => match p.1 with
  | .d y => (live p.2 i).bind fun xs => if xs.length < sizeLine then some (.nx, putL p.2 i (xs ++ [y])) else none
  | _ => none := rfl
@[simp] theorem x_sSetIx : sSetIx i f g en = (g en).bind fun p => match p.1 with
  | .d y => (live p.2 i).bind fun _ => (f p.2).bind fun q => (asInt q.1).bind fun k => (live q.2 i).bind fun xs => (ixN xs.length k).bind fun j => some (.nx, putL q.2 i (xs.set j y))
  | _ => none := rfl
@[simp] theorem x_pNil : pNil en = some ([], en) := rfl
@[simp] theorem x_pE : pE f p en = (f en).bind fun u => match u.1 with
  | .d x => (p u.2).bind fun q => some (.d x :: q.1, q.2)
  | _ => none := rfl
@[simp] theorem x_pL : pL l p en = (l en).bind fun u => (p u.2).bind fun q => some (.l u.1 :: q.1, q.2) := rfl
@[simp] theorem x_sPar {is : List Nat} : sPar is p en = (p en).bind fun u => (parSet is u.1 u.2).bind fun en' => some (.nx, en') := rfl
@[simp] theorem x_fSeq : fSeq f en = (f en).bind fun p => match p.1 with
  | .d x => (itSeq x).bind fun xs => some (xs, p.2)
  | _ => none := rfl
@[simp] theorem x_fEnum : fEnum f en = (f en).bind fun p => (itLT p.1).bind fun q => some (enumD 0 q.2, p.2) := rfl
@[simp] theorem x_fZip : fZip f g en = (f en).bind fun p => (g p.2).bind fun q => (itLT p.1).bind fun a => (itLT q.1).bind fun b => if a.1 = b.1 then some (zipD a.2 b.2, q.2) else none := rfl
@[simp] theorem x_fRng1 : fRng1 f en = (f en).bind fun p => (asInt p.1).bind fun n => if RngOk n then some (rngL 0 n.toNat, p.2) else none := rfl
@[simp] theorem x_fRng2 : fRng2 f g en = (f en).bind fun p => (asInt p.1).bind fun a => (g p.2).bind fun q => (asInt q.1).bind fun b =>
  if RngOk a ∧ RngOk b then some (rngL a (b - a).toNat, q.2) else none := rfl
@[simp] theorem x_fCall {gg : SF} {dd : List PyData} : fCall gg m n dd q en = (q en).bind fun p => (argsOf p.2 p.1).bind fun as => if (bors p.1).Nodup ∧ as.length + dd.length = m then
    (fcall gg n (as ++ dd.map .d)).bind fun r => some (.d r.1, putBack p.2 p.1 r.2) else none := rfl
@[simp] theorem x_fCallL : fCallL l m n q en = (q en).bind fun p => (datL p.1).bind fun xs => if noLv p.2 = true ∧ xs.length = m then (l ((datS xs).map some ++ List.replicate n none)).bind fun r => some (r.1, p.2) else none := rfl
@[simp] theorem x_hSeq : hSeq a l en = (a en).bind fun p => match p.1 with
  | .nx => l p.2
  | _ => none := rfl
@[simp] theorem x_sWhile : sWhile c a en = whileF c a fuel en := rfl
@[simp] theorem x_resd : res en (.d x) = some x := rfl
@[simp] theorem x_resb : res en (.b i) = (live en i).map .list := rfl
@[simp] theorem x_resL0 : resL en [] = some [] := rfl
@[simp] theorem x_datL0 : datL [] = some [] := rfl
@[simp] theorem x_datL1 {rs : List RV} : datL (.d x :: rs) = (datL rs).bind fun xs => some (x :: xs) := rfl
@[simp] theorem x_argsOf0 : argsOf en [] = some [] := rfl
@[simp] theorem x_argsOf1 {rs : List RV} : argsOf en (.d x :: rs) = (argsOf en rs).bind fun as => some (.d x :: as) := rfl
@[simp] theorem x_argsOf2 {rs : List RV} : argsOf en (.b i :: rs) = (live en i).bind fun xs => (argsOf en rs).bind fun as => some (.p xs :: as) := rfl
@[simp] theorem x_bors0 : bors [] = [] := rfl
@[simp] theorem x_bors1 {rs : List RV} : bors (.d x :: rs) = bors rs := rfl
@[simp] theorem x_bors2 {rs : List RV} : bors (.b i :: rs) = i :: bors rs := rfl
@[simp] theorem x_putBack0 {as : List SV} : putBack en [] as = en := rfl
theorem x_putBackN {rs : List RV} : putBack en rs [] = en := by
  cases rs with
  | nil => rfl
  | cons r rs => cases r <;> rfl
@[simp] theorem x_putBack1 {rs : List RV} {as : List SV} : putBack en (.d x :: rs) as = putBack en rs as.tail := by
  cases as with
  | nil => rw [List.tail_nil, x_putBackN, x_putBackN]
  | cons s as => cases s <;> rfl
@[simp] theorem x_putBack2 {rs : List RV} {as : List SV} : putBack en (.b i :: rs) (.p ys :: as) = putBack (putL en i ys) rs as := rfl
@[simp] theorem x_outP0 : outP [] en = [] := rfl
@[simp] theorem x_outP1 {r : List SV} : outP (.d x :: r) en = .d x :: outP r en.tail := rfl
@[simp] theorem x_outP2 {r : List SV} {s : En} : outP (.p xs :: r) (some (.p ys) :: s) = .p ys :: outP r s := rfl
@[simp] theorem x_asInt {k : Int} : asInt (.d (.int k)) = some k := rfl
@[simp] theorem x_itL : itLT (.d (.list xs)) = some (false, xs) := rfl
@[simp] theorem x_itT : itLT (.d (.tuple xs)) = some (true, xs) := rfl
@[simp] theorem x_itS1 : itSeq (.list xs) = some xs := rfl
@[simp] theorem x_itS2 : itSeq (.tuple xs) = some xs := rfl
@[simp] theorem x_parSet0 : parSet [] [] en = some en := rfl
@[simp] theorem x_parSet1 {is : List Nat} {r : List PV} : parSet (i :: is) (.d x :: r) en = if open_ en i then parSet is r (en.set i (some (.d x))) else none := rfl
@[simp] theorem x_parSet2 {is : List Nat} {r : List PV} : parSet (i :: is) (.l xs :: r) en = if open_ en i then parSet is r (en.set i (some (.l xs))) else none := rfl
@[simp] theorem x_forL0 : forL t b [] en = some (.nx, en) := rfl
@[simp] theorem x_forL1 : forL t b (x :: xs) en = (t x en).bind fun en1 => (b en1).bind fun p => match p.1 with
    | .nx => forL t b xs p.2
    | .ct => forL t b xs p.2
    | .bk => some (.nx, p.2)
    | .rt y => some (.rt y, p.2) := rfl
@[simp] theorem x_backE0 {e e' : En} : backE e e' [] = e' := rfl
@[simp] theorem x_backE1 {e e' : En} {v : Nat} {vs : List Nat} : backE e e' (v :: vs) = (backE e e' vs).set v ((e[v]?).getD none) := rfl
@[simp] theorem x_wipeE0 : wipeE en [] = en := rfl
@[simp] theorem x_wipeE1 {v : Nat} {vs : List Nat} : wipeE en (v :: vs) = (wipeE en vs).set v none := rfl
end
@[simp] theorem x_resL1 {en : En} {r : RV} {rs : List RV} : resL en (r :: rs) = (res en r).bind fun x => (resL en rs).bind fun xs => some (x :: xs) := rfl
theorem small_size {n : Nat} (h : n ≤ 1000000) : n ≤ sizeLine := by
  have := sizeLine_eq
  omega
theorem small_size' {n : Nat} (h : n < 1000000) : n < sizeLine := by
  have := sizeLine_eq
  omega
/-- abs -/
def ab (x : Int) : Int := if x < 0 then -x else x
theorem ab_nonneg (x : Int) : 0 ≤ ab x := by unfold ab; split <;> omega
theorem ab_of (x : Int) : (0 ≤ x ∧ ab x = x) ∨ (x < 0 ∧ ab x = -x) := by unfold ab; split <;> omega
@[simp] theorem sz_eq : sizeLine = 16777216 := sizeLine_eq
/-! operators over numbers -/
section
variable {i j : Int}
@[simp] theorem o_add : oAdd (.int i) (.int j) = some (.int (i + j)) := rfl
@[simp] theorem o_sub : oSub (.int i) (.int j) = some (.int (i - j)) := rfl
@[simp] theorem o_neg : oNeg (.int i) = some (.int (-i)) := rfl
theorem o_mulR (h : -18446744073709551616 < j) (h2 : j < 18446744073709551616) : oMul (.int i) (.int j) = some (.int (i * j)) := if_pos (MulOk.r h h2)
theorem o_mulL (h : -18446744073709551616 < i) (h2 : i < 18446744073709551616) : oMul (.int i) (.int j) = some (.int (i * j)) := if_pos (MulOk.l h h2)
theorem o_div (h : 0 < j) (h2 : j < 18446744073709551616) : oDiv (.int i) (.int j) = some (.int (i / j)) := if_pos (DivOk.of h h2)
theorem o_mod (h : 0 < j) : oMod (.int i) (.int j) = some (.int (i % j)) := if_pos h
@[simp] theorem o_lt : oLt (.int i) (.int j) = some (.bool (decide (i < j))) := rfl
@[simp] theorem o_gt : oGt (.int i) (.int j) = some (.bool (decide (j < i))) := rfl
@[simp] theorem o_le : oLe (.int i) (.int j) = some (.bool (decide (i ≤ j))) := rfl
@[simp] theorem o_ge : oGe (.int i) (.int j) = some (.bool (decide (j ≤ i))) := rfl
@[simp] theorem o_eq : oEq (.int i) (.int j) = some (.bool (decide (i = j))) := by
  simp only [oEq, okd, PyData.plain, PyData.depth, PyData.eqv]
  rfl
@[simp] theorem o_ne : oNe (.int i) (.int j) = some (.bool (decide (i ≠ j))) := by
  simp only [oNe, okd, PyData.plain, PyData.depth, PyData.eqv]
  simp
  rfl
@[simp] theorem o_len1 {xs : List PyData} : oLen [.list xs] = some (.int xs.length) := rfl
@[simp] theorem o_len2 {xs : List PyData} : oLen [.tuple xs] = some (.int xs.length) := rfl
@[simp] theorem o_abs : oAbs [.int i] = some (.int (ab i)) := rfl
@[simp] theorem o_int : oInt [.int i] = some (.int i) := rfl
@[simp] theorem o_tuple1 {xs : List PyData} : oTuple [.list xs] = some (.tuple xs) := rfl
@[simp] theorem o_tuple2 {xs : List PyData} : oTuple [.tuple xs] = some (.tuple xs) := rfl
@[simp] theorem o_list1 {xs : List PyData} : oListOf [.list xs] = some xs := rfl
@[simp] theorem o_list2 {xs : List PyData} : oListOf [.tuple xs] = some xs := rfl
@[simp] theorem o_min2 : oMin [.int i, .int j] = some (.int (min i j)) := by
  show some (PyData.int (if j < i then j else i)) = _
  split
  · rw [Int.min_eq_right (by omega)]
  · rw [Int.min_eq_left (by omega)]
@[simp] theorem o_max2 : oMax [.int i, .int j] = some (.int (max i j)) := by
  show some (PyData.int (if j > i then j else i)) = _
  split
  · rw [Int.max_eq_right (by omega)]
  · rw [Int.max_eq_left (by omega)]
@[simp] theorem o_tru1 {b : Bool} : tru (.bool b) = some b := rfl
@[simp] theorem o_tru2 : tru (.int i) = some (i != 0) := rfl
@[simp] theorem o_tru3 {xs : List PyData} : tru (.list xs) = some (!xs.isEmpty) := rfl
@[simp] theorem o_tru4 {xs : List PyData} : tru (.tuple xs) = some (!xs.isEmpty) := rfl
@[simp] theorem o_tru5 : tru .none = some false := rfl
@[simp] theorem o_isN1 : isN .none = true := rfl
@[simp] theorem o_isN2 {b : Bool} : isN (.bool b) = false := rfl
@[simp] theorem o_isN3 : isN (.int i) = false := rfl
@[simp] theorem o_isN4 {xs : List PyData} : isN (.list xs) = false := rfl
@[simp] theorem o_isN5 {xs : List PyData} : isN (.tuple xs) = false := rfl
@[simp] theorem o_isLst {xs : List PyData} : isLst (.list xs) = true := rfl
theorem kind_of {T : String} {x : PyData} {b : Bool} (h : kitB (tyOf x) T = some b) : isKind T x = some (.bool b) := by
  unfold isKind
  rw [h]
@[simp] theorem k_int1 : isKind "int" (.int i) = some (.bool true) := kind_of (show kitB "int" "int" = some true by decide +kernel)
@[simp] theorem k_int2 : isKind "bool" (.int i) = some (.bool false) := kind_of (show kitB "int" "bool" = some false by decide +kernel)
@[simp] theorem k_int3 : isKind "tuple" (.int i) = some (.bool false) := kind_of (show kitB "int" "tuple" = some false by decide +kernel)
@[simp] theorem k_tup1 {xs : List PyData} : isKind "tuple" (.tuple xs) = some (.bool true) := kind_of (show kitB "tuple" "tuple" = some true by decide +kernel)
@[simp] theorem k_tup2 {xs : List PyData} : isKind "int" (.tuple xs) = some (.bool false) := kind_of (show kitB "tuple" "int" = some false by decide +kernel)
@[simp] theorem k_lst1 {xs : List PyData} : isKind "list" (.list xs) = some (.bool true) := kind_of (show kitB "list" "list" = some true by decide +kernel)
@[simp] theorem o_ix1 {xs : List PyData} : oIx (.list xs) (.int i) = atI xs i := rfl
@[simp] theorem o_ix2 {xs : List PyData} : oIx (.tuple xs) (.int i) = atI xs i := rfl
theorem o_cat {xs ys : List PyData} (h : xs.length + ys.length ≤ 1000000) : oAdd (.tuple xs) (.tuple ys) = some (.tuple (xs ++ ys)) := if_pos (small_size h)
theorem o_catL {xs ys : List PyData} (h : xs.length + ys.length ≤ 1000000) : oAdd (.list xs) (.list ys) = some (.list (xs ++ ys)) := if_pos (small_size h)
end
@[simp] theorem at0 {α : Type} {a : α} {l : List α} : atI (a :: l) 0 = some a := by
  unfold atI ixN
  rw [if_pos (by decide), if_pos (by simp only [List.length_cons]; omega)]
  rfl
@[simp] theorem at1 {α : Type} {a b : α} {l : List α} : atI (a :: b :: l) 1 = some b := by
  unfold atI ixN
  rw [if_pos (by decide), if_pos (by simp only [List.length_cons]; omega)]
  rfl
@[simp] theorem at2 {α : Type} {a b c : α} {l : List α} : atI (a :: b :: c :: l) 2 = some c := by
  unfold atI ixN
  rw [if_pos (by decide), if_pos (by simp only [List.length_cons]; omega)]
  rfl
@[simp] theorem at3 {α : Type} {a b c d : α} {l : List α} : atI (a :: b :: c :: d :: l) 3 = some d := by
  unfold atI ixN
  rw [if_pos (by decide), if_pos (by simp only [List.length_cons]; omega)]
  rfl
@[simp] theorem at4 {α : Type} {a b c d e : α} {l : List α} : atI (a :: b :: c :: d :: e :: l) 4 = some e := by
  unfold atI ixN
  rw [if_pos (by decide), if_pos (by simp only [List.length_cons]; omega)]
  rfl
@[simp] theorem at5 {α : Type} {a b c d e f : α} {l : List α} : atI (a :: b :: c :: d :: e :: f :: l) 5 = some f := by
  unfold atI ixN
  rw [if_pos (by decide), if_pos (by simp only [List.length_cons]; omega)]
  rfl
@[simp] theorem at6 {α : Type} {a b c d e f g : α} {l : List α} : atI (a :: b :: c :: d :: e :: f :: g :: l) 6 = some g := by
  unfold atI ixN
  rw [if_pos (by decide), if_pos (by simp only [List.length_cons]; omega)]
  rfl
/-! ### loops -/
/-- a loop that changes no more than its own names -/
theorem forL_spec {g : GF} {b : SF} (I : En → Prop) (r : PyData → Option PyData) : ∀ {xs : List PyData} {en : En}, (∀ x ∈ xs, ∀ en, I en → ∃ en2, ((g x en).bind b) = some ((match r x with | some y => .rt y | none => .nx), en2) ∧ I en2) → I en →
    ∃ en', forL g b xs en = some ((match xs.findSome? r with | some y => .rt y | none => .nx), en') ∧ I en'
  | [], en, _, hi => ⟨en, rfl, hi⟩
  | x :: xs, en, h, hi => by
    obtain ⟨en2, e1, h2⟩ := h x (by simp) en hi
    obtain ⟨en1, e3, e4⟩ := Option.bind_eq_some_iff.mp e1
    rw [x_forL1, e3, Option.bind_some, e4, Option.bind_some, List.findSome?_cons]
    cases hr : r x with
    | some y => exact ⟨en2, rfl, h2⟩
    | none =>
      obtain ⟨en', e5, h5⟩ := forL_spec I r (xs := xs) (en := en2) (fun x hx => h x (by simp [hx])) h2
      exact ⟨en', e5, h5⟩
/-- a loop that goes on to its end, or leaves by a value -/
theorem forL_inv {g : GF} {b : SF} {I : Nat → En → Prop} {Post : Out → En → Prop} : ∀ {xs : List PyData} {k : Nat} {en : En}, (∀ i x en, xs[i]? = some x → I (k + i) en → ∃ o en2, ((g x en).bind b) = some (o, en2) ∧ (((o = .nx ∨ o = .ct) ∧ I (k + i + 1) en2) ∨ (o = .bk ∧ Post .nx en2) ∨ ∃ y, o = .rt y ∧ Post (.rt y) en2)) →
    (∀ en, I (k + xs.length) en → Post .nx en) → I k en → ∃ o en', forL g b xs en = some (o, en') ∧ Post o en'
  | [], k, en, _, hp, hi => ⟨.nx, en, rfl, hp en (by simpa using hi)⟩
  | x :: xs, k, en, h, hp, hi => by
    obtain ⟨o, en2, e1, h2⟩ := h 0 x en rfl (by simpa using hi)
    obtain ⟨en1, e3, e4⟩ := Option.bind_eq_some_iff.mp e1
    rw [x_forL1, e3, Option.bind_some, e4, Option.bind_some]
    have rest : I (k + 1) en2 → ∃ o en', forL g b xs en2 = some (o, en') ∧ Post o en' := fun hi2 =>
      forL_inv (k := k + 1) (fun i y en hy hI => by
        have := h (i + 1) y en (by simpa using hy) (by rw [show k + (i + 1) = k + 1 + i by omega]; exact hI)
        rwa [show k + (i + 1) + 1 = k + 1 + i + 1 by omega] at this) (fun en he => hp en (by rw [List.length_cons, show k + (xs.length + 1) = k + 1 + xs.length by omega]; exact he)) hi2
    rcases h2 with ⟨rfl | rfl, h2⟩ | ⟨rfl, h2⟩ | ⟨y, rfl, h2⟩
    · exact rest (by simpa using h2)
    · exact rest (by simpa using h2)
    · exact ⟨_, _, rfl, h2⟩
    · exact ⟨_, _, rfl, h2⟩
theorem whileF_inv {c : TF} {b : SF} {I : Nat → En → Prop} {Post : Out → En → Prop} (h : ∀ m en, I m en → ∃ t en1, c en = some (t, en1) ∧ if t = true then ∃ o en2, b en1 = some (o, en2) ∧ (((o = .nx ∨ o = .ct) ∧ ∃ m', m' < m ∧ I m' en2) ∨ (o = .bk ∧ Post .nx en2) ∨ ∃ y, o = .rt y ∧ Post (.rt y) en2) else Post .nx en1) :
    ∀ (n m : Nat) (en : En), m < n → I m en → ∃ o en', whileF c b n en = some (o, en') ∧ Post o en'
  | 0, m, en, hm, _ => absurd hm (Nat.not_lt_zero _)
  | n + 1, m, en, hm, hi => by
    obtain ⟨t, en1, e1, h1⟩ := h m en hi
    show ∃ o en', ((c en).bind fun p => if p.1 = true then (b p.2).bind fun q => match q.1 with
      | .nx => whileF c b n q.2
      | .ct => whileF c b n q.2
      | .bk => some (.nx, q.2)
      | .rt y => some (.rt y, q.2)
      else some (.nx, p.2)) = some (o, en') ∧ Post o en'
    rw [e1, Option.bind_some]
    cases t with
    | false => exact ⟨_, _, rfl, h1⟩
    | true =>
      simp only [if_true] at h1 ⊢
      obtain ⟨o, en2, e2, h2⟩ := h1
      rw [e2, Option.bind_some]
      rcases h2 with ⟨rfl | rfl, m', hm', h2⟩ | ⟨rfl, h2⟩ | ⟨y, rfl, h2⟩
      · exact whileF_inv h n m' en2 (by omega) h2
      · exact whileF_inv h n m' en2 (by omega) h2
      · exact ⟨_, _, rfl, h2⟩
      · exact ⟨_, _, rfl, h2⟩
/-! ### comprehensions -/
def lcStep (g : GF) (tt : TF) (te : EF) (vs : List Nat) (x : PyData) (en : En) : Option (Option PyData × En) := (g x en).bind fun en1 => (tt en1).bind fun p => if p.1 = true then (te p.2).bind fun q => match q.1 with
      | .d y => some (some y, wipeE q.2 vs)
      | _ => none
    else some (none, wipeE p.2 vs)
theorem lcL_step {g : GF} {tt : TF} {te : EF} {vs : List Nat} {x : PyData} {xs : List PyData} {en en1 : En} {o : Option PyData} (h : lcStep g tt te vs x en = some (o, en1)) :
    lcL g tt te vs (x :: xs) en = (lcL g tt te vs xs en1).bind fun r => some (o.toList ++ r.1, r.2) := by
  simp only [lcStep, Option.bind_eq_some_iff] at h
  obtain ⟨e1, h1, ⟨b, e2⟩, h2, h⟩ := h
  simp only [lcL, h1, h2, Option.bind_some]
  cases b with
  | true =>
    simp only [if_true, Option.bind_eq_some_iff] at h ⊢
    obtain ⟨⟨c, e3⟩, h3, h⟩ := h
    rw [h3, Option.bind_some]
    cases c with
    | d y => cases h; rfl
    | b i => cases h
  | false =>
    simp only [Bool.false_eq_true, if_false] at h ⊢
    cases h
    cases lcL g tt te vs xs (wipeE e2 vs) with
    | none => rfl
    | some r => rfl
theorem lcL_pure {g : GF} {tt : TF} {te : EF} {vs : List Nat} (F : PyData → Option PyData) : ∀ {xs : List PyData} {en : En}, (∀ x ∈ xs, lcStep g tt te vs x en = some (F x, en)) → lcL g tt te vs xs en = some (xs.filterMap F, en)
  | [], en, _ => rfl
  | x :: xs, en, h => by
    rw [lcL_step (h x (by simp)), lcL_pure F (fun y hy => h y (by simp [hy]))]
    cases hF : F x with
    | none => simp [hF]
    | some y => simp [hF]
theorem fLc_pure {it : IF} {g : GF} {tt : TF} {te : EF} {vs : List Nat} {en en1 : En} {xs : List PyData} (F : PyData → Option PyData) (h1 : it en = some (xs, en1)) (h2 : xs.length ≤ 1000000) (h3 : vs.all (plainAt en1) = true) (h : ∀ x ∈ xs, lcStep g tt te vs x (wipeE en1 vs) = some (F x, wipeE en1 vs)) :
    fLc it g tt te vs en = some (xs.filterMap F, backE en1 (wipeE en1 vs) vs) := by
  simp only [fLc, h1, Option.bind_some, lcL_pure F h]
  rw [if_pos ⟨small_size h2, h3⟩]
theorem fmap_ints {p : Int → Bool} {f : Int → PyData} {F : PyData → Option PyData} : ∀ {ns : List Int}, (∀ n ∈ ns, F (.int n) = if p n = true then some (f n) else none) → (ns.map PyData.int).filterMap F = (ns.filter p).map f
  | [], _ => rfl
  | n :: ns, h => by
    have ih := fmap_ints (p := p) (f := f) (F := F) (ns := ns) fun m hm => h m (by simp [hm])
    rw [List.map_cons, List.filterMap_cons, h n (by simp), List.filter_cons]
    by_cases hp : p n = true
    · simp [hp, ih]
    · simp [hp, ih]
/-- over numbers: those with p, through f -/
theorem fLc_ints {it : IF} {g : GF} {tt : TF} {te : EF} {vs : List Nat} {en en1 : En} {ns : List Int} (p : Int → Bool) (f : Int → PyData) (h1 : it en = some (ns.map .int, en1)) (h2 : ns.length ≤ 1000000) (h3 : vs.all (plainAt en1) = true)
    (h : ∀ n ∈ ns, lcStep g tt te vs (.int n) (wipeE en1 vs) = some (if p n = true then some (f n) else none, wipeE en1 vs)) :
    fLc it g tt te vs en = some ((ns.filter p).map f, backE en1 (wipeE en1 vs) vs) := by
  rw [fLc_pure (fun x => match x with | .int n => if p n = true then some (f n) else none | _ => none) h1 (by simpa using h2) h3 (fun x hx => ?_)]
  · rw [fmap_ints fun n _ => rfl]
  · obtain ⟨n, hn, rfl⟩ := List.mem_map.mp hx
    exact h n hn
/-- over numbers: all of them, through f -/
theorem fLc_imap {it : IF} {g : GF} {tt : TF} {te : EF} {vs : List Nat} {en en1 : En} {ns : List Int} (f : Int → PyData) (h1 : it en = some (ns.map .int, en1)) (h2 : ns.length ≤ 1000000) (h3 : vs.all (plainAt en1) = true)
    (h : ∀ n ∈ ns, lcStep g tt te vs (.int n) (wipeE en1 vs) = some (some (f n), wipeE en1 vs)) :
    fLc it g tt te vs en = some (ns.map f, backE en1 (wipeE en1 vs) vs) := by
  rw [fLc_ints (fun _ => true) f h1 h2 h3 fun n hn => h n hn, List.filter_eq_self.mpr fun _ _ => rfl]
/-! two clauses -/
def lc2Step (g : GF) (tt : TF) (it1 : IF) (g1 : GF) (tt1 : TF) (te : EF) (vs vs1 : List Nat) (x : PyData) (en : En) : Option (List PyData × En) := (g x en).bind fun en1 => (tt en1).bind fun p => if p.1 = true then (it1 p.2).bind fun q => (lcL g1 tt1 te vs1 q.1 (wipeE q.2 vs1)).bind fun u => some (u.1, wipeE u.2 vs) else some ([], wipeE p.2 vs)
theorem lc2L_pure {g g1 : GF} {tt tt1 : TF} {it1 : IF} {te : EF} {vs vs1 : List Nat} (F : PyData → List PyData) : ∀ {xs : List PyData} {en : En}, (∀ x ∈ xs, lc2Step g tt it1 g1 tt1 te vs vs1 x en = some (F x, en)) → lc2L g tt it1 g1 tt1 te vs vs1 xs en = some (xs.flatMap F, en)
  | [], en, _ => rfl
  | x :: xs, en, h => by
    have h0 := h x (by simp)
    have ih := lc2L_pure F (xs := xs) (en := en) fun y hy => h y (by simp [hy])
    simp only [lc2Step, Option.bind_eq_some_iff] at h0
    obtain ⟨e1, h1, ⟨b, e2⟩, h2, h0⟩ := h0
    simp only [lc2L, h1, h2, Option.bind_some]
    cases b with
    | true =>
      simp only [if_true, Option.bind_eq_some_iff] at h0 ⊢
      obtain ⟨⟨ys, e3⟩, h3, ⟨zs, e4⟩, h4, h0⟩ := h0
      simp only [Option.some.injEq, Prod.mk.injEq] at h0
      obtain ⟨rfl, h5⟩ := h0
      exact ⟨_, h3, _, h4, _, by rw [h5]; exact ih, by simp⟩
    | false =>
      simp only [Bool.false_eq_true, if_false, Option.some.injEq, Prod.mk.injEq] at h0 ⊢
      obtain ⟨h4, h5⟩ := h0
      rw [h5, ih, List.flatMap_cons, ← h4]
      rfl
theorem fLc2_pure {it it1 : IF} {g g1 : GF} {tt tt1 : TF} {te : EF} {vs vs1 : List Nat} {en en1 : En} {xs : List PyData} (F : PyData → List PyData) (h1 : it en = some (xs, en1)) (h2 : (xs.flatMap F).length ≤ 1000000) (h3 : vs.all (plainAt en1) = true) (h : ∀ x ∈ xs, lc2Step g tt it1 g1 tt1 te vs vs1 x (wipeE en1 vs) = some (F x, wipeE en1 vs)) :
    fLc2 it g tt it1 g1 tt1 te vs vs1 en = some (xs.flatMap F, backE en1 (wipeE en1 vs) vs) := by
  simp only [fLc2, h1, Option.bind_some, lc2L_pure F h]
  rw [if_pos h3, if_pos (small_size h2)]
theorem rngIn {n : Int} (h : -1000000000 ≤ n) (h2 : n ≤ 1000000000) : RngOk n := by
  unfold RngOk
  omega
@[simp] theorem rngIn_0 : RngOk 0 := rngIn (by decide) (by decide)
@[simp] theorem rngIn_1 : RngOk 1 := rngIn (by decide) (by decide)
@[simp] theorem rngIn_2 : RngOk 2 := rngIn (by decide) (by decide)
@[simp] theorem rngIn_3 : RngOk 3 := rngIn (by decide) (by decide)
@[simp] theorem rngIn_4 : RngOk 4 := rngIn (by decide) (by decide)
@[simp] theorem rngIn_5 : RngOk 5 := rngIn (by decide) (by decide)
@[simp] theorem rngIn_6 : RngOk 6 := rngIn (by decide) (by decide)
@[simp] theorem rngIn_61 : RngOk 61 := rngIn (by decide) (by decide)
/-- lo, lo + 1, .. -/
def rng (lo hi : Int) : List Int := (List.range (hi - lo).toNat).map fun (i : Nat) => lo + (i : Int)
theorem rngL_rng (lo hi : Int) : rngL lo (hi - lo).toNat = (rng lo hi).map .int := by
  simp [rngL, rng, Function.comp_def]
theorem mem_rng {lo hi n : Int} : n ∈ rng lo hi ↔ lo ≤ n ∧ n < hi := by
  simp only [rng, List.mem_map, List.mem_range]
  constructor
  · rintro ⟨i, h1, rfl⟩
    omega
  · rintro ⟨h1, h2⟩
    exact ⟨(n - lo).toNat, by omega, by omega⟩
theorem rng_length (lo hi : Int) : (rng lo hi).length = (hi - lo).toNat := by simp [rng]
end L2.FL
set_option Elab.async false
set_option linter.all false
set_option maxRecDepth 100000
set_option maxHeartbeats 4000000
/-! FL19: the laws' own draws: _law_start, _law_draw. -/
namespace L2.FL
open PySem PySem.Spec PyProof.Rows L2

noncomputable def rStart : LF := (hSeq (sAsg (gSet 1) (fC (.int 7)))
  (hSeq (sFor (fSeq (fSl (fVar 0) fNoPart (fPart (fC (.int 63))))) (gSet 2) (sAsg (gSet 1) (f2 oAdd (f2 oMod (fB oInt (fCons (f2 oAdd (f2 oMul (fVar 1) (fC (.int 48271))) (fVar 2)) fNil)) (fC (.int 2147483629))) (fC (.int 1)))))
  (fLst (fCons (fOfL (fLc (fSeq (fSl (fVar 0) fNoPart (fPart (fC (.int 63))))) (gSet 2) fYes (fB oAbs (fCons (fB oInt (fCons (fVar 2) fNil)) fNil)) [2])) (fCons (fC (.int 0)) (fCons (fC (.int 0)) (fCons (fC (.int 0)) (fCons (fVar 1) (fCons (fC (.int 0)) fNil)))))))))
noncomputable def rDraw : SF := (sSeq (sIf (fAnd (fBool (f2 oEq (f2 oIx (fVar 0) (fC (.int 3))) (fC (.int 0)))) (fBool (f2 oLt (f2 oIx (fVar 0) (fC (.int 1))) (fB oLen (fCons (f2 oIx (fVar 0) (fC (.int 0))) fNil))))) (sAsg (gTup' (gCons' (gIx 0 (fC (.int 2))) (gCons' (gIx 0 (fC (.int 3))) (gCons' (gIx 0 (fC (.int 1))) gNil')))) (fTup (fCons (f2 oIx (f2 oIx (fVar 0) (fC (.int 0))) (f2 oIx (fVar 0) (fC (.int 1)))) (fCons (fC (.int 60)) (fCons (f2 oAdd (f2 oIx (fVar 0) (fC (.int 1))) (fC (.int 1))) fNil))))) sNil)
  (sSeq (sIf (fBool (f2 oGt (f2 oIx (fVar 0) (fC (.int 3))) (fC (.int 0)))) (sSeq (sAsg (gSet 2) (f2 oMod (fB oInt (fCons (f2 oIx (fVar 0) (fC (.int 2))) fNil)) (fVar 1)))
  (sSeq (sSetIx 0 (fC (.int 2)) (f2 oDiv (f2 oIx (fVar 0) (fC (.int 2))) (fVar 1)))
  (sSeq (sSetIx 0 (fC (.int 3)) (fIfE (fBool (f2 oGt (f2 oIx (fVar 0) (fC (.int 2))) (fC (.int 0)))) (f2 oSub (f2 oIx (fVar 0) (fC (.int 3))) (fC (.int 1))) (fC (.int 0))))
  (sRet (fVar 2))))) sNil)
  (sSeq (sSetIx 0 (fC (.int 5)) (f2 oAdd (f2 oIx (fVar 0) (fC (.int 5))) (fC (.int 1))))
  (sSeq (sSetIx 0 (fC (.int 4)) (f2 oMod (fB oInt (fCons (f2 oAdd (f2 oAdd (f2 oMul (f2 oIx (fVar 0) (fC (.int 4))) (fC (.int 48271))) (f2 oMul (f2 oMul (f2 oIx (fVar 0) (fC (.int 5))) (f2 oIx (fVar 0) (fC (.int 5)))) (fC (.int 69621)))) (fC (.int 11))) fNil)) (fC (.int 2147483647))))
  (sRet (f2 oMod (fB oInt (fCons (f2 oDiv (f2 oIx (fVar 0) (fC (.int 4))) (fC (.int 13))) fNil)) (fVar 1)))))))
/-- a state of draws; b: no more draws than that have been made by reckoning -/
def Drawn (b : Nat) (S : List PyData) : Prop := ∃ (ns : List Int) (p c k s : Int) (n : Nat), S = [.list (ns.map .int), .int p, .int c, .int k, .int s, .int n] ∧ (∀ x ∈ ns, 0 ≤ x) ∧ 0 ≤ p ∧ 0 ≤ c ∧ 0 ≤ s ∧ s < 2147483648 ∧ n ≤ b
theorem Drawn.mono {b b' : Nat} {S : List PyData} (h : Drawn b S) (hb : b ≤ b') : Drawn b' S := by
  obtain ⟨ns, p, c, k, s, n, h1, h2, h3, h4, h5, h6, h7⟩ := h
  exact ⟨ns, p, c, k, s, n, h1, h2, h3, h4, h5, h6, by omega⟩
theorem atI_ints {ns : List Int} {p : Int} (h0 : 0 ≤ p) (h1 : p < ns.length) : ∃ x ∈ ns, atI (ns.map PyData.int) p = some (.int x) := by
  have hl : p.toNat < ns.length := by omega
  refine ⟨ns[p.toNat], List.getElem_mem hl, ?_⟩
  unfold atI ixN
  rw [if_pos h0, if_pos (by simpa using h1)]
  simp [hl]
theorem ev_rDraw {S : List PyData} {b : Nat} {m : Int} (h : Drawn b S) (hb : b < 4611686018427387904) (hm : 1 ≤ m) (hm2 : m < 4611686018427387904) :
    ∃ r S', 0 ≤ r ∧ r < m ∧ Drawn (b + 1) S' ∧ fcall rDraw 1 [.p S, .d (.int m)] = some (.int r, [.p S', .d (.int m)]) := by
  obtain ⟨ns, p, c, k, s, n, rfl, h2, h3, h4, h5, h6, h7⟩ := h
  have hm0 : (0 : Int) < m := by omega
  have dv : ∀ i, oDiv (.int i) (.int m) = some (.int (i / m)) := fun i => o_div hm0 (by omega)
  have dv13 : ∀ i, oDiv (.int i) (.int 13) = some (.int (i / 13)) := fun i => o_div (by decide) (by decide)
  have md : ∀ i, oMod (.int i) (.int m) = some (.int (i % m)) := fun i => o_mod hm0
  have mdP : ∀ i, oMod (.int i) (.int 2147483647) = some (.int (i % 2147483647)) := fun i => o_mod (by decide)
  have ml1 : ∀ i, oMul (.int i) (.int 48271) = some (.int (i * 48271)) := fun i => o_mulR (by decide) (by decide)
  have ml2 : ∀ i, oMul (.int i) (.int 69621) = some (.int (i * 69621)) := fun i => o_mulR (by decide) (by decide)
  have ml3 : oMul (.int ((n : Int) + 1)) (.int ((n : Int) + 1)) = some (.int (((n : Int) + 1) * ((n : Int) + 1))) := o_mulR (by omega) (by omega)
  have em : ∀ y : Int, 0 ≤ y % m ∧ y % m < m := fun y => ⟨Int.emod_nonneg _ (by omega), Int.emod_lt_of_pos _ hm0⟩
  have dp : ∀ y : Int, 0 ≤ y → 0 ≤ y / m := fun y hy => Int.ediv_nonneg hy (by omega)
  have eP : ∀ y : Int, 0 ≤ y % 2147483647 ∧ y % 2147483647 < 2147483648 := fun y => ⟨Int.emod_nonneg _ (by decide), by have := Int.emod_lt_of_pos y (show (0 : Int) < 2147483647 by decide); omega⟩
  by_cases c1 : k = 0 ∧ p < ns.length
  · obtain ⟨rfl, hp⟩ := c1
    obtain ⟨x, hx, e⟩ := atI_ints h3 hp
    have hx0 := h2 x hx
    by_cases c2 : 0 < x / m
    · refine ⟨x % m, _, (em x).1, (em x).2, ⟨ns, p + 1, x / m, 59, s, n, rfl, h2, by omega, dp x hx0, h5, h6, by omega⟩, ?_⟩
      simp [fcall, rDraw, live, putL, ixN, open_, hp, dv, md, c2, e]
    · refine ⟨x % m, _, (em x).1, (em x).2, ⟨ns, p + 1, x / m, 0, s, n, rfl, h2, by omega, dp x hx0, h5, h6, by omega⟩, ?_⟩
      simp [fcall, rDraw, live, putL, ixN, open_, hp, dv, md, c2, e]
  · by_cases c2 : 0 < k
    · have k0 : k ≠ 0 := by omega
      by_cases c3 : 0 < c / m
      · refine ⟨c % m, _, (em c).1, (em c).2, ⟨ns, p, c / m, k - 1, s, n, rfl, h2, h3, dp c h4, h5, h6, by omega⟩, ?_⟩
        simp [fcall, rDraw, live, putL, ixN, open_, dv, md, c2, c3, k0]
      · refine ⟨c % m, _, (em c).1, (em c).2, ⟨ns, p, c / m, 0, s, n, rfl, h2, h3, dp c h4, h5, h6, by omega⟩, ?_⟩
        simp [fcall, rDraw, live, putL, ixN, open_, dv, md, c2, c3, k0]
    · refine ⟨((s * 48271 + ((n : Int) + 1) * ((n : Int) + 1) * 69621 + 11) % 2147483647) / 13 % m, _, (em _).1, (em _).2, ⟨ns, p, c, k, (s * 48271 + ((n : Int) + 1) * ((n : Int) + 1) * 69621 + 11) % 2147483647, n + 1, rfl, h2, h3, h4, (eP _).1, (eP _).2, by omega⟩, ?_⟩
      by_cases k0 : k = 0
      · subst k0
        have hp : ¬ p < ns.length := fun q => c1 ⟨rfl, q⟩
        simp [fcall, rDraw, live, putL, ixN, open_, dv13, md, mdP, ml1, ml2, ml3, hp]
      · simp [fcall, rDraw, live, putL, ixN, open_, dv13, md, mdP, ml1, ml2, ml3, c2, k0]
theorem cut63 (xs : List PyData) (h : xs.length ≤ 63) : cutD xs none (some 63) = xs := cut_whole ⟨rfl, by
  have := HT.sIx_nat xs.length xs.length 63
  rw [show ((63 : Nat) : Int) = (63 : Int) from rfl] at this
  rw [this]
  omega⟩
theorem start_loop {L : PyData} : ∀ {xs : List Int} {s : Int} {o : Option SV}, 0 ≤ s → s < 2147483648 → (o = none ∨ ∃ y, o = some (.d y)) →
    ∃ s' o', 0 ≤ s' ∧ s' < 2147483648 ∧ (o' = none ∨ ∃ y, o' = some (.d y)) ∧ forL (gSet 2) (sAsg (gSet 1) (f2 oAdd (f2 oMod (fB oInt (fCons (f2 oAdd (f2 oMul (fVar 1) (fC (.int 48271))) (fVar 2)) fNil)) (fC (.int 2147483629))) (fC (.int 1)))) (xs.map .int) [some (.d L), some (.d (.int s)), o] = some (.nx, [some (.d L), some (.d (.int s')), o'])
  | [], s, o, h1, h2, h3 => ⟨s, o, h1, h2, h3, rfl⟩
  | x :: xs, s, o, h1, h2, h3 => by
    have g1 := Int.emod_nonneg (s * 48271 + x) (show (2147483629 : Int) ≠ 0 by decide)
    have g2 := Int.emod_lt_of_pos (s * 48271 + x) (show (0 : Int) < 2147483629 by decide)
    obtain ⟨s', o', k1, k2, k3, k4⟩ := start_loop (L := L) (xs := xs) (s := (s * 48271 + x) % 2147483629 + 1) (o := some (.d (.int x))) (by omega) (by omega) (.inr ⟨_, rfl⟩)
    refine ⟨s', o', k1, k2, k3, ?_⟩
    have ml : ∀ i, oMul (.int i) (.int 48271) = some (.int (i * 48271)) := fun i => o_mulR (by decide) (by decide)
    have md : ∀ i, oMod (.int i) (.int 2147483629) = some (.int (i % 2147483629)) := fun i => o_mod (by decide)
    rw [List.map_cons, x_forL1]
    rcases h3 with rfl | ⟨y, rfl⟩
    · simp [open_, ml, md, k4]
    · simp [open_, ml, md, k4]
theorem ev_rStart {ns : List Int} (h : ns.length ≤ 63) : ∃ S en, Drawn 0 S ∧ rStart [some (.d (.list (ns.map .int))), none, none] = some (S, en) := by
  obtain ⟨s, o, h1, h2, h3, h4⟩ := start_loop (L := .list (ns.map .int)) (xs := ns) (s := 7) (o := none) (by decide) (by decide) (.inl rfl)
  have hc := cut63 (ns.map .int) (by simpa using h)
  have hp : List.all [2] (plainAt [some (.d (.list (ns.map .int))), some (.d (.int s)), o]) = true := by rcases h3 with rfl | ⟨y, rfl⟩ <;> rfl
  have hl : fLc (fSeq (fSl (fVar 0) fNoPart (fPart (fC (.int 63))))) (gSet 2) fYes (fB oAbs (fCons (fB oInt (fCons (fVar 2) fNil)) fNil)) [2] [some (.d (.list (ns.map .int))), some (.d (.int s)), o] =
      some (ns.map (fun n => .int (ab n)), backE [some (.d (.list (ns.map .int))), some (.d (.int s)), o] (wipeE [some (.d (.list (ns.map .int))), some (.d (.int s)), o] [2]) [2]) := by
    refine fLc_imap (fun n => .int (ab n)) (by simp [hc]) (by omega) hp fun n hn => ?_
    simp [lcStep, open_]
  refine ⟨[.list ((ns.map ab).map .int), .int 0, .int 0, .int 0, .int s, .int 0], [some (.d (.list (ns.map .int))), some (.d (.int s)), o], ⟨ns.map ab, 0, 0, 0, s, 0, rfl, fun x hx => ?_, by omega, by omega, h1, h2, by omega⟩, ?_⟩
  · obtain ⟨n, _, rfl⟩ := List.mem_map.mp hx
    exact ab_nonneg n
  · simp [rStart, open_, hc, h4, hl, Function.comp_def]
end L2.FL
set_option Elab.async false
set_option linter.all false
set_option maxRecDepth 100000
set_option maxHeartbeats 4000000
/-! FL20: rows of numbers: ==, in, min, max, repr. -/
namespace L2.FL
open PySem PySem.Spec PyProof.Rows L2

theorem plainI : ∀ ns : List Int, PyData.plainAll (ns.map .int) = true
  | [] => rfl
  | n :: ns => by simp [PyData.plainAll, PyData.plain, plainI ns]
theorem depthI : ∀ ns : List Int, PyData.depthAll (ns.map .int) = 0
  | [] => rfl
  | n :: ns => by simp [PyData.depthAll, PyData.depth, depthI ns]
theorem eqvI : ∀ a b : List Int, PyData.eqvAll (a.map .int) (b.map .int) = decide (a = b)
  | [], [] => by simp [PyData.eqvAll]
  | [], _ :: _ => by simp [PyData.eqvAll]
  | _ :: _, [] => by simp [PyData.eqvAll]
  | x :: xs, y :: ys => by
    simp only [List.map_cons, PyData.eqvAll, PyData.eqv, eqvI xs ys]
    by_cases h : x = y
    · subst h; simp
    · simp [h]
@[simp] theorem okdAllI (ns : List Int) : okdAll (ns.map .int) = true := by simp [okdAll, plainI, depthI]
@[simp] theorem okdI (n : Int) : okd (.int n) = true := by simp [okd, PyData.plain, PyData.depth]
@[simp] theorem okdT (ns : List Int) : okd (.tuple (ns.map .int)) = true := by simp [okd, PyData.plain, PyData.depth, plainI, depthI]
@[simp] theorem okdL (ns : List Int) : okd (.list (ns.map .int)) = true := by simp [okd, PyData.plain, PyData.depth, plainI, depthI]
theorem eqT (a b : List Int) : oEq (.tuple (a.map .int)) (.tuple (b.map .int)) = some (.bool (decide (a = b))) := by simp [oEq, PyData.eqv, eqvI]
theorem neT (a b : List Int) : oNe (.tuple (a.map .int)) (.tuple (b.map .int)) = some (.bool (!decide (a = b))) := by simp [oNe, PyData.eqv, eqvI]
theorem eqL (a b : List Int) : oEq (.list (a.map .int)) (.list (b.map .int)) = some (.bool (decide (a = b))) := by simp [oEq, PyData.eqv, eqvI]
theorem neL (a b : List Int) : oNe (.list (a.map .int)) (.list (b.map .int)) = some (.bool (!decide (a = b))) := by simp [oNe, PyData.eqv, eqvI]
theorem anyI (ns : List Int) (n : Int) : anyEq (ns.map .int) (.int n) = decide (n ∈ ns) := by
  induction ns with
  | nil => simp [anyEq]
  | cons x r ih =>
    unfold anyEq at ih ⊢
    rw [List.map_cons, List.any_cons, ih]
    simp only [PyData.eqv]
    by_cases h : x = n
    · subst h; simp
    · have h' : n ≠ x := fun e => h e.symm
      simp [h, h']
theorem inT (ns : List Int) (n : Int) : oIn (.int n) (.tuple (ns.map .int)) = some (.bool (decide (n ∈ ns))) := by simp [oIn, anyI]
theorem notInT (ns : List Int) (n : Int) : oNotIn (.int n) (.tuple (ns.map .int)) = some (.bool (!decide (n ∈ ns))) := by simp [oNotIn, anyI]
theorem inL (ns : List Int) (n : Int) : oIn (.int n) (.list (ns.map .int)) = some (.bool (decide (n ∈ ns))) := by simp [oIn, anyI]
theorem notInL (ns : List Int) (n : Int) : oNotIn (.int n) (.list (ns.map .int)) = some (.bool (!decide (n ∈ ns))) := by simp [oNotIn, anyI]
theorem alikeI (ns : List Int) : alikeB (ns.map .int) = true := by
  simp [alikeB, List.all_eq_true, PySem.W.alike]
/-- the greatest, the least -/
def mx : List Int → Int
  | [] => 0
  | n :: ns => ns.foldl max n
def mn : List Int → Int
  | [] => 0
  | n :: ns => ns.foldl min n
theorem foldl_max : ∀ (ns : List Int) (n : Int), (ns.foldl max n = n ∨ ns.foldl max n ∈ ns) ∧ n ≤ ns.foldl max n ∧ ∀ m ∈ ns, m ≤ ns.foldl max n
  | [], n => ⟨.inl rfl, Int.le_refl _, by simp⟩
  | x :: r, n => by
    obtain ⟨h1, h2, h3⟩ := foldl_max r (max n x)
    refine ⟨?_, by show n ≤ r.foldl max (max n x); omega, fun m hm => ?_⟩
    · show r.foldl max (max n x) = n ∨ _
      rcases h1 with h1 | h1
      · rw [h1]
        by_cases q : n ≤ x
        · exact .inr (by show r.foldl max (max n x) ∈ _; rw [h1, Int.max_eq_right q]; simp)
        · exact .inl (Int.max_eq_left (by omega))
      · exact .inr (by show r.foldl max (max n x) ∈ _; simp [h1])
    · show m ≤ r.foldl max (max n x)
      rcases List.mem_cons.mp hm with rfl | hm
      · omega
      · exact h3 m hm
theorem foldl_min : ∀ (ns : List Int) (n : Int), (ns.foldl min n = n ∨ ns.foldl min n ∈ ns) ∧ ns.foldl min n ≤ n ∧ ∀ m ∈ ns, ns.foldl min n ≤ m
  | [], n => ⟨.inl rfl, Int.le_refl _, by simp⟩
  | x :: r, n => by
    obtain ⟨h1, h2, h3⟩ := foldl_min r (min n x)
    refine ⟨?_, by show r.foldl min (min n x) ≤ n; omega, fun m hm => ?_⟩
    · show r.foldl min (min n x) = n ∨ _
      rcases h1 with h1 | h1
      · rw [h1]
        by_cases q : n ≤ x
        · exact .inl (Int.min_eq_left q)
        · exact .inr (by show r.foldl min (min n x) ∈ _; rw [h1, Int.min_eq_right (by omega)]; simp)
      · exact .inr (by show r.foldl min (min n x) ∈ _; simp [h1])
    · show r.foldl min (min n x) ≤ m
      rcases List.mem_cons.mp hm with rfl | hm
      · omega
      · exact h3 m hm
theorem mx_mem {ns : List Int} (h : ns ≠ []) : mx ns ∈ ns := by
  cases ns with
  | nil => exact absurd rfl h
  | cons n r =>
    rcases (foldl_max r n).1 with e | e
    · show r.foldl max n ∈ _; rw [e]; simp
    · show r.foldl max n ∈ _; simp [e]
theorem mx_ge {ns : List Int} {m : Int} (h : m ∈ ns) : m ≤ mx ns := by
  cases ns with
  | nil => cases h
  | cons n r =>
    rcases List.mem_cons.mp h with rfl | h
    · exact (foldl_max r m).2.1
    · exact (foldl_max r n).2.2 m h
theorem mn_mem {ns : List Int} (h : ns ≠ []) : mn ns ∈ ns := by
  cases ns with
  | nil => exact absurd rfl h
  | cons n r =>
    rcases (foldl_min r n).1 with e | e
    · show r.foldl min n ∈ _; rw [e]; simp
    · show r.foldl min n ∈ _; simp [e]
theorem mn_le {ns : List Int} {m : Int} (h : m ∈ ns) : mn ns ≤ m := by
  cases ns with
  | nil => cases h
  | cons n r =>
    rcases List.mem_cons.mp h with rfl | h
    · exact (foldl_min r m).2.1
    · exact (foldl_min r n).2.2 m h
theorem maxL {ns : List Int} (h : ns ≠ []) : oMax [.list (ns.map .int)] = some (.int (mx ns)) := by
  cases ns with
  | nil => exact absurd rfl h
  | cons n r =>
    show (if alikeB ((n :: r).map .int) && okdAll ((n :: r).map .int) then some (PySem.W.maxD (.int n) (r.map .int)) else none) = _
    rw [alikeI, okdAllI, PySem.W.maxD_ints]
    rfl
theorem minL {ns : List Int} (h : ns ≠ []) : oMin [.list (ns.map .int)] = some (.int (mn ns)) := by
  cases ns with
  | nil => exact absurd rfl h
  | cons n r =>
    show (if alikeB ((n :: r).map .int) && okdAll ((n :: r).map .int) then some (PySem.W.minD (.int n) (r.map .int)) else none) = _
    rw [alikeI, okdAllI, PySem.W.minD_ints]
    rfl
theorem maxT {ns : List Int} (h : ns ≠ []) : oMax [.tuple (ns.map .int)] = some (.int (mx ns)) := by
  cases ns with
  | nil => exact absurd rfl h
  | cons n r =>
    show (if alikeB ((n :: r).map .int) && okdAll ((n :: r).map .int) then some (PySem.W.maxD (.int n) (r.map .int)) else none) = _
    rw [alikeI, okdAllI, PySem.W.maxD_ints]
    rfl
theorem minT {ns : List Int} (h : ns ≠ []) : oMin [.tuple (ns.map .int)] = some (.int (mn ns)) := by
  cases ns with
  | nil => exact absurd rfl h
  | cons n r =>
    show (if alikeB ((n :: r).map .int) && okdAll ((n :: r).map .int) then some (PySem.W.minD (.int n) (r.map .int)) else none) = _
    rw [alikeI, okdAllI, PySem.W.minD_ints]
    rfl
/-! pairs of numbers -/
def pr (p : Int × Int) : PyData := .tuple [.int p.1, .int p.2]
theorem alikeP (ps : List (Int × Int)) : alikeB (ps.map pr) = true := by
  simp [alikeB, List.all_eq_true, pr, PySem.W.alike, PySem.W.alikeAll]
theorem okdP (ps : List (Int × Int)) : okdAll (ps.map pr) = true := by
  have h : ∀ ps : List (Int × Int), PyData.plainAll (ps.map pr) = true ∧ PyData.depthAll (ps.map pr) ≤ 1 := fun ps => by
    induction ps with
    | nil => exact ⟨rfl, by simp [PyData.depthAll]⟩
    | cons p r ih => exact ⟨by simp [PyData.plainAll, PyData.plain, pr, ih.1], by simp [PyData.depthAll, PyData.depth, pr, ih.2]⟩
  have := (h ps).2
  simp only [okdAll, (h ps).1, Bool.true_and, decide_eq_true_eq]
  omega
theorem minP_fold : ∀ (ps : List (Int × Int)) (p : Int × Int), ∃ q, PySem.W.minD (pr p) (ps.map pr) = pr q ∧ (q = p ∨ q ∈ ps) ∧ ∀ r, (r = p ∨ r ∈ ps) → q.1 < r.1 ∨ (q.1 = r.1 ∧ q.2 ≤ r.2)
  | [], p => ⟨p, rfl, .inl rfl, fun r h => by
    rcases h with rfl | h
    · exact .inr ⟨rfl, Int.le_refl _⟩
    · cases h⟩
  | x :: ps, p => by
    have e : PySem.W.dataLt (pr x) (pr p) = decide (x.1 < p.1 ∨ (x.1 = p.1 ∧ x.2 < p.2)) := PySem.W.dataLt_ii _ _ _ _
    by_cases h : x.1 < p.1 ∨ (x.1 = p.1 ∧ x.2 < p.2)
    · obtain ⟨q, h1, h2, h3⟩ := minP_fold ps x
      refine ⟨q, ?_, ?_, fun r hr => ?_⟩
      · show (ps.map pr).foldl _ (if PySem.W.dataLt (pr x) (pr p) then pr x else pr p) = _
        rw [e, if_pos (by simpa using h)]
        exact h1
      · rcases h2 with h2 | h2
        · exact .inr (by simp [h2])
        · exact .inr (by simp [h2])
      · rcases hr with rfl | hr
        · have := h3 x (.inl rfl)
          omega
        · rcases List.mem_cons.mp hr with rfl | hr
          · exact h3 _ (.inl rfl)
          · exact h3 _ (.inr hr)
    · obtain ⟨q, h1, h2, h3⟩ := minP_fold ps p
      refine ⟨q, ?_, ?_, fun r hr => ?_⟩
      · show (ps.map pr).foldl _ (if PySem.W.dataLt (pr x) (pr p) then pr x else pr p) = _
        rw [e, if_neg (by simpa using h)]
        exact h1
      · rcases h2 with h2 | h2
        · exact .inl h2
        · exact .inr (by simp [h2])
      · rcases hr with rfl | hr
        · exact h3 _ (.inl rfl)
        · rcases List.mem_cons.mp hr with rfl | hr
          · have := h3 p (.inl rfl)
            omega
          · exact h3 _ (.inr hr)
theorem minP {ps : List (Int × Int)} (h : ps ≠ []) : ∃ q ∈ ps, oMin [.list (ps.map pr)] = some (pr q) ∧ ∀ r ∈ ps, q.1 < r.1 ∨ (q.1 = r.1 ∧ q.2 ≤ r.2) := by
  cases ps with
  | nil => exact absurd rfl h
  | cons p r =>
    obtain ⟨q, h1, h2, h3⟩ := minP_fold r p
    refine ⟨q, by rcases h2 with h2 | h2 <;> simp [h2], ?_, fun x hx => h3 x (by simpa using hx)⟩
    show (if alikeB ((p :: r).map pr) && okdAll ((p :: r).map pr) then some (PySem.W.minD (pr p) (r.map pr)) else none) = _
    rw [alikeP, okdP, h1]
    rfl
/-! all -/
theorem toBls_map : ∀ bs : List Bool, toBls (bs.map .bool) = some bs
  | [] => rfl
  | b :: r => by simp [toBls, toBls_map r]
theorem toInts_map : ∀ bs : List Int, toInts (bs.map .int) = some bs
  | [] => rfl
  | b :: r => by simp [toInts, toInts_map r]
theorem allB (bs : List Bool) : oAll [.list (bs.map .bool)] = some (.bool (bs.all id)) := by simp [oAll, toBls_map]
theorem anyB (bs : List Bool) : oAny [.list (bs.map .bool)] = some (.bool (bs.any id)) := by simp [oAny, toBls_map]
theorem sumI (ns : List Int) : oSum [.list (ns.map .int)] = some (.int ns.sum) := by simp [oSum, toInts_map]
/-- repr of a short tuple of numbers -/
theorem int_str_len {n : Int} (h : n.natAbs < 10 ^ 18) : (PySem.Str.ofString (toString n)).length ≤ 19 := by
  have e := int_text_length_le10 (k := 18) (by decide) h
  rw [PySem.ofString_length]
  exact e
theorem piledI : ∀ ns : List Int, (∀ n ∈ ns, n.natAbs < 10 ^ 18) → piled (PyData.shownAll (ns.map .int)) ≤ 21 * ns.length
  | [], _ => by simp [PyData.shownAll, piled]
  | n :: r, h => by
    have ih := piledI r fun m hm => h m (by simp [hm])
    have h1 := int_str_len (h n (by simp))
    rw [List.map_cons, PyData.shownAll, piled_cons, List.length_cons]
    have h2 : (PyData.shown (.int n)).length ≤ 19 := by
      unfold PyData.shown
      exact h1
    omega
theorem shownT_len {ns : List Int} (h : ∀ n ∈ ns, n.natAbs < 10 ^ 18) : (PyData.shown (.tuple (ns.map .int))).length ≤ 21 * ns.length + 3 := by
  have h1 := piledI ns h
  unfold PyData.shown tupleText
  rw [strLen_append, strLen_append]
  have e1 : (("(" : String) : Str).length = 1 := rfl
  have e2 : ((if ((PyData.shownAll (ns.map .int)).length == 1) = true then ",)" else ")" : String) : Str).length ≤ 2 := by
    split
    · exact Nat.le_refl _
    · exact Nat.le_succ _
  by_cases hn : PyData.shownAll (ns.map .int) = []
  · rw [hn] at e2 ⊢
    have e3 : (Str.join ", " []).length = 0 := rfl
    rw [e3]
    rw [hn] at h1
    omega
  · have e3 := join_length_add _ hn
    omega
theorem showableI : ∀ ns : List Int, (∀ n ∈ ns, n.natAbs < 10 ^ 18) → PyData.showableAll (ns.map .int) = true
  | [], _ => rfl
  | n :: r, h => by
    have h1 : n.natAbs.log2 < 1920 := by
      have := h n (by simp)
      by_cases h0 : n.natAbs = 0
      · rw [h0]; decide
      · rw [Nat.log2_lt h0]
        exact Nat.lt_of_lt_of_le this (Nat.le_trans (show 10 ^ 18 ≤ 2 ^ 60 by decide) (Nat.pow_le_pow_right (by decide) (by decide)))
    simp [PyData.showableAll, PyData.showable, h1, showableI r fun m hm => h m (by simp [hm])]
theorem reprT {ns : List Int} (h : ∀ n ∈ ns, n.natAbs < 10 ^ 18) (hl : ns.length ≤ 10000) : oRepr [.tuple (ns.map .int)] = some (.str (PyData.shown (.tuple (ns.map .int)))) := by
  have h1 := shownT_len h
  have h2 : PyData.showable (.tuple (ns.map .int)) = true := by unfold PyData.showable; exact showableI ns h
  simp only [oRepr, h2, okdT, Bool.true_and]
  rw [if_pos (decide_eq_true (small_size (by omega)))]
theorem eqStr (a : Str) : oEq (.str a) (.str a) = some (.bool true) := by
  have : PyData.eqv (.str a) (.str a) = true := by simp [PyData.eqv]
  simp [oEq, okd, PyData.plain, PyData.depth, this]
end L2.FL
namespace L2.FL
open PySem PySem.Spec PyProof.Rows L2
theorem canLayI : ∀ ns : List Int, PyData.canLayAll0 (ns.map .int) = true
  | [] => rfl
  | n :: r => by
    have := canLayI r
    simp [PyData.canLayAll0, PyData.canLay0, this]
theorem findIdxI : ∀ (ns : List Int) (m : Int), m ∈ ns → ∃ j, ((ns.map PyData.int).findIdx? fun z => PyData.eqv z (.int m)) = some j ∧ ns[j]? = some m
  | [], m, h => by cases h
  | n :: r, m, h => by
    by_cases e : n = m
    · subst e
      exact ⟨0, by simp [List.findIdx?_cons, PyData.eqv], rfl⟩
    · have hm : m ∈ r := by
        rcases List.mem_cons.mp h with q | q
        · exact absurd q.symm e
        · exact q
      obtain ⟨j, h1, h2⟩ := findIdxI r m hm
      refine ⟨j + 1, ?_, by simpa using h2⟩
      rw [List.map_cons, List.findIdx?_cons]
      have : PyData.eqv (.int n) (.int m) = false := by simp [PyData.eqv, e]
      rw [this, h1]
      rfl
theorem indexL {ns : List Int} {m : Int} (h : m ∈ ns) : ∃ j : Nat, oIndex (.list (ns.map .int)) (.int m) = some (.int j) ∧ ns[j]? = some m := by
  obtain ⟨j, h1, h2⟩ := findIdxI ns m h
  have s1 : SeqAt.shaped (.list (ns.map .int)) = true := by simp [SeqAt.shaped, PyData.canLay0, canLayI, PyData.depth, depthI]
  have s2 : SeqAt.shaped (.int m) = true := by simp [SeqAt.shaped, PyData.canLay0, PyData.depth]
  refine ⟨j, ?_, h2⟩
  show (if SeqAt.shaped (.list (ns.map .int)) && SeqAt.shaped (.int m) then ((ns.map PyData.int).findIdx? fun z => PyData.eqv z (.int m)).map fun j => PyData.int (j : Nat) else none) = _
  rw [s1, s2, h1]
  rfl
end L2.FL
set_option Elab.async false
set_option linter.all false
set_option maxRecDepth 100000
set_option maxHeartbeats 4000000
/-! the readings of law_k28_units_within_units, printed by gen.py -/
namespace K28
open PySem PySem.Spec PyProof.Rows L2 L2.FL
def topS (i : Nat) : Stmt := PySem.Challenge.pw_hoardsread_k28_units_within_units.main.body.getD i (.Pass ⟨0, 0, 0, 0⟩)
abbrev s__law_start : Stmt := topS 28
abbrev N__law_start : List Str := [PySem.Str.ofString "script", PySem.Str.ofString "seed", PySem.Str.ofString "cell"]
theorem S__law_start : FnScope N__law_start [PySem.Str.ofString "script"] (defScope s__law_start) := ⟨rfl, rfl, rfl, by decide +kernel, rfl, by decide +kernel, by decide +kernel⟩
noncomputable def h__law_start : LF := (hSeq (sAsg (gSet 1) (fC (.int 7)))
  (hSeq (sFor (fSeq (fSl (fVar 0) fNoPart (fPart (fC (.int 63))))) (gSet 2) (sAsg (gSet 1) (f2 oAdd (f2 oMod (fB oInt (fCons (f2 oAdd (f2 oMul (fVar 1) (fC (.int 48271))) (fVar 2)) fNil)) (fC (.int 2147483629))) (fC (.int 1)))))
  (fLst (fCons (fOfL (fLc (fSeq (fSl (fVar 0) fNoPart (fPart (fC (.int 63))))) (gSet 2) fYes (fB oAbs (fCons (fB oInt (fCons (fVar 2) fNil)) fNil)) [2])) (fCons (fC (.int 0)) (fCons (fC (.int 0)) (fCons (fC (.int 0)) (fCons (fVar 1) (fCons (fC (.int 0)) fNil)))))))))
abbrev s__law_draw : Stmt := topS 29
abbrev N__law_draw : List Str := [PySem.Str.ofString "state", PySem.Str.ofString "many", PySem.Str.ofString "found"]
theorem S__law_draw : FnScope N__law_draw [PySem.Str.ofString "state", PySem.Str.ofString "many"] (defScope s__law_draw) := ⟨rfl, rfl, rfl, by decide +kernel, rfl, by decide +kernel, by decide +kernel⟩
noncomputable def g__law_draw : SF := (sSeq (sIf (fAnd (fBool (f2 oEq (f2 oIx (fVar 0) (fC (.int 3))) (fC (.int 0)))) (fBool (f2 oLt (f2 oIx (fVar 0) (fC (.int 1))) (fB oLen (fCons (f2 oIx (fVar 0) (fC (.int 0))) fNil))))) (sAsg (gTup' (gCons' (gIx 0 (fC (.int 2))) (gCons' (gIx 0 (fC (.int 3))) (gCons' (gIx 0 (fC (.int 1))) gNil')))) (fTup (fCons (f2 oIx (f2 oIx (fVar 0) (fC (.int 0))) (f2 oIx (fVar 0) (fC (.int 1)))) (fCons (fC (.int 60)) (fCons (f2 oAdd (f2 oIx (fVar 0) (fC (.int 1))) (fC (.int 1))) fNil))))) sNil)
  (sSeq (sIf (fBool (f2 oGt (f2 oIx (fVar 0) (fC (.int 3))) (fC (.int 0)))) (sSeq (sAsg (gSet 2) (f2 oMod (fB oInt (fCons (f2 oIx (fVar 0) (fC (.int 2))) fNil)) (fVar 1)))
  (sSeq (sSetIx 0 (fC (.int 2)) (f2 oDiv (f2 oIx (fVar 0) (fC (.int 2))) (fVar 1)))
  (sSeq (sSetIx 0 (fC (.int 3)) (fIfE (fBool (f2 oGt (f2 oIx (fVar 0) (fC (.int 2))) (fC (.int 0)))) (f2 oSub (f2 oIx (fVar 0) (fC (.int 3))) (fC (.int 1))) (fC (.int 0))))
  (sRet (fVar 2))))) sNil)
  (sSeq (sSetIx 0 (fC (.int 5)) (f2 oAdd (f2 oIx (fVar 0) (fC (.int 5))) (fC (.int 1))))
  (sSeq (sSetIx 0 (fC (.int 4)) (f2 oMod (fB oInt (fCons (f2 oAdd (f2 oAdd (f2 oMul (f2 oIx (fVar 0) (fC (.int 4))) (fC (.int 48271))) (f2 oMul (f2 oMul (f2 oIx (fVar 0) (fC (.int 5))) (f2 oIx (fVar 0) (fC (.int 5)))) (fC (.int 69621)))) (fC (.int 11))) fNil)) (fC (.int 2147483647))))
  (sRet (f2 oMod (fB oInt (fCons (f2 oDiv (f2 oIx (fVar 0) (fC (.int 4))) (fC (.int 13))) fNil)) (fVar 1)))))))
abbrev s__law_weights : Stmt := topS 32
abbrev N__law_weights : List Str := [PySem.Str.ofString "state", PySem.Str.ofString "unit", PySem.Str.ofString "found", PySem.Str.ofString "k"]
theorem S__law_weights : FnScope N__law_weights [PySem.Str.ofString "state"] (defScope s__law_weights) := ⟨rfl, rfl, rfl, by decide +kernel, rfl, by decide +kernel, by decide +kernel⟩
noncomputable def g__law_weights : SF := (sSeq (sPar [1, 2] (pE (f2 oAdd (fC (.int 1)) (fCall g__law_draw 2 1 [] (fCons (fVar 0) (fCons (fC (.int 15)) fNil)))) (pL (fLst fNil) pNil)))
  (sSeq (sFor (fRng1 (f2 oAdd (fC (.int 1)) (fCall g__law_draw 2 1 [] (fCons (fVar 0) (fCons (fC (.int 5)) fNil))))) (gSet 3) (sApp 2 (fB oMax (fCons (fOfL (fLst (fCons (fC (.int 1)) (fCons (f2 oSub (f2 oAdd (f2 oMul (fVar 1) (f2 oAdd (fC (.int 1)) (fCall g__law_draw 2 1 [] (fCons (fVar 0) (fCons (fC (.int 6)) fNil))))) (fCall g__law_draw 2 1 [] (fCons (fVar 0) (fCons (fC (.int 5)) fNil)))) (fC (.int 2))) fNil)))) fNil))))
  (sRet (fB oTuple (fCons (fVar 2) fNil)))))
abbrev s_is_integer : Stmt := topS 6
abbrev N_is_integer : List Str := [PySem.Str.ofString "value"]
theorem S_is_integer : FnScope N_is_integer [PySem.Str.ofString "value"] (defScope s_is_integer) := ⟨rfl, rfl, rfl, by decide +kernel, rfl, by decide +kernel, by decide +kernel⟩
noncomputable def g_is_integer : SF := (sRet (fAndT (f1 (isKind "int") (fVar 0)) (fNotT (f1 (isKind "bool") (fVar 0)))))
abbrev s_check_weights : Stmt := topS 11
abbrev N_check_weights : List Str := [PySem.Str.ofString "weights", PySem.Str.ofString "own"]
theorem S_check_weights : FnScope N_check_weights [PySem.Str.ofString "weights"] (defScope s_check_weights) := ⟨rfl, rfl, rfl, by decide +kernel, rfl, by decide +kernel, by decide +kernel⟩
noncomputable def g_check_weights : SF := (sSeq (sIf (fOr (fNot (fTru (f1 (isKind "tuple") (fVar 0)))) (fNot (fBool (fChain oLe oLe (fC (.int 1)) (fB oLen (fCons (fVar 0) fNil)) (fC (.int 60)))))) sNever sNil)
  (sIf (fNot (fTru (fB oAll (fCons (fOfL (fLc (fSeq (fVar 0)) (gSet 1) fYes (fAndT (fCall g_is_integer 1 0 [] (fCons (fVar 1) fNil)) (fChain oLe oLe (fC (.int 1)) (fVar 1) (fC (.int 100000)))) [1])) fNil)))) sNever sNil))
abbrev s_check_slack : Stmt := topS 12
abbrev N_check_slack : List Str := [PySem.Str.ofString "slack"]
theorem S_check_slack : FnScope N_check_slack [PySem.Str.ofString "slack"] (defScope s_check_slack) := ⟨rfl, rfl, rfl, by decide +kernel, rfl, by decide +kernel, by decide +kernel⟩
noncomputable def g_check_slack : SF := (sIf (fOr (fNot (fTru (fCall g_is_integer 1 0 [] (fCons (fVar 0) fNil)))) (fNot (fBool (fChain oLe oLe (fC (.int 0)) (fVar 0) (fC (.int 100000)))))) sNever sNil)
abbrev s_check_unit : Stmt := topS 13
abbrev N_check_unit : List Str := [PySem.Str.ofString "unit", PySem.Str.ofString "reason"]
theorem S_check_unit : FnScope N_check_unit [PySem.Str.ofString "unit", PySem.Str.ofString "reason"] (defScope s_check_unit) := ⟨rfl, rfl, rfl, by decide +kernel, rfl, by decide +kernel, by decide +kernel⟩
noncomputable def g_check_unit : SF := (sIf (fOr (fNot (fTru (fCall g_is_integer 1 0 [] (fCons (fVar 0) fNil)))) (fNot (fBool (fChain oLe oLe (fC (.int 1)) (fVar 0) (fC (.int 100000)))))) sNever sNil)
abbrev s_check_range : Stmt := topS 16
abbrev N_check_range : List Str := [PySem.Str.ofString "weights", PySem.Str.ofString "slack", PySem.Str.ofString "low", PySem.Str.ofString "high"]
theorem S_check_range : FnScope N_check_range [PySem.Str.ofString "weights", PySem.Str.ofString "slack", PySem.Str.ofString "low", PySem.Str.ofString "high"] (defScope s_check_range) := ⟨rfl, rfl, rfl, by decide +kernel, rfl, by decide +kernel, by decide +kernel⟩
noncomputable def g_check_range : SF := (sSeq (sDrop (fCall g_check_weights 1 1 [] (fCons (fVar 0) fNil)))
  (sSeq (sDrop (fCall g_check_slack 1 0 [] (fCons (fVar 1) fNil)))
  (sSeq (sDrop (fCall g_check_unit 2 0 [] (fCons (fVar 2) (fCons (fC (.str (PySem.Str.ofString "low"))) fNil))))
  (sSeq (sDrop (fCall g_check_unit 2 0 [] (fCons (fVar 3) (fCons (fC (.str (PySem.Str.ofString "high"))) fNil))))
  (sSeq (sIf (fBool (f2 oGt (fVar 2) (fVar 3))) sNever sNil)
  (sIf (fBool (f2 oGt (f2 oMul (f2 oAdd (f2 oSub (fVar 3) (fVar 2)) (fC (.int 1))) (fB oLen (fCons (fVar 0) fNil))) (fC (.int 20000)))) sNever sNil))))))
abbrev s_nearest : Stmt := topS 14
abbrev N_nearest : List Str := [PySem.Str.ofString "weight", PySem.Str.ofString "unit", PySem.Str.ofString "times"]
theorem S_nearest : FnScope N_nearest [PySem.Str.ofString "weight", PySem.Str.ofString "unit"] (defScope s_nearest) := ⟨rfl, rfl, rfl, by decide +kernel, rfl, by decide +kernel, by decide +kernel⟩
noncomputable def g_nearest : SF := (sSeq (sAsg (gSet 2) (fB oMax (fCons (fC (.int 1)) (fCons (f2 oDiv (fVar 0) (fVar 1)) fNil))))
  (sRet (fIfE (fBool (f2 oLe (fB oAbs (fCons (f2 oSub (fVar 0) (f2 oMul (fVar 2) (fVar 1))) fNil)) (fB oAbs (fCons (f2 oSub (fVar 0) (f2 oMul (f2 oAdd (fVar 2) (fC (.int 1))) (fVar 1))) fNil)))) (fVar 2) (f2 oAdd (fVar 2) (fC (.int 1))))))
abbrev s_is_good : Stmt := topS 17
abbrev N_is_good : List Str := [PySem.Str.ofString "weights", PySem.Str.ofString "slack", PySem.Str.ofString "unit", PySem.Str.ofString "own"]
theorem S_is_good : FnScope N_is_good [PySem.Str.ofString "weights", PySem.Str.ofString "slack", PySem.Str.ofString "unit"] (defScope s_is_good) := ⟨rfl, rfl, rfl, by decide +kernel, rfl, by decide +kernel, by decide +kernel⟩
noncomputable def g_is_good : SF := (sRet (fNotT (fOfL (fLc (fSeq (fVar 0)) (gSet 3) (fBool (f2 oGt (fB oAbs (fCons (f2 oSub (fVar 3) (f2 oMul (fCall g_nearest 2 1 [] (fCons (fVar 3) (fCons (fVar 2) fNil))) (fVar 2))) fNil)) (fVar 1))) (fVar 3) [3]))))
abbrev s_good_units : Stmt := topS 18
abbrev N_good_units : List Str := [PySem.Str.ofString "weights", PySem.Str.ofString "slack", PySem.Str.ofString "low", PySem.Str.ofString "high", PySem.Str.ofString "unit"]
theorem S_good_units : FnScope N_good_units [PySem.Str.ofString "weights", PySem.Str.ofString "slack", PySem.Str.ofString "low", PySem.Str.ofString "high"] (defScope s_good_units) := ⟨rfl, rfl, rfl, by decide +kernel, rfl, by decide +kernel, by decide +kernel⟩
noncomputable def g_good_units : SF := (sSeq (sDrop (fCall g_check_range 4 0 [] (fCons (fVar 0) (fCons (fVar 1) (fCons (fVar 2) (fCons (fVar 3) fNil))))))
  (sRet (fB oTuple (fCons (fOfL (fLc (fRng2 (fVar 2) (f2 oAdd (fVar 3) (fC (.int 1)))) (gSet 4) (fTru (fCall g_is_good 3 1 [] (fCons (fVar 0) (fCons (fVar 1) (fCons (fVar 4) fNil))))) (fVar 4) [4])) fNil))))
abbrev s__law_divisors_hold : Stmt := topS 33
abbrev N__law_divisors_hold : List Str := [PySem.Str.ofString "weights", PySem.Str.ofString "slack", PySem.Str.ofString "good", PySem.Str.ofString "unit", PySem.Str.ofString "own"]
theorem S__law_divisors_hold : FnScope N__law_divisors_hold [PySem.Str.ofString "weights", PySem.Str.ofString "slack"] (defScope s__law_divisors_hold) := ⟨rfl, rfl, rfl, by decide +kernel, rfl, by decide +kernel, by decide +kernel⟩
noncomputable def g__law_divisors_hold : SF := (sSeq (sAsg (gSet 2) (fCall g_good_units 4 1 [] (fCons (fVar 0) (fCons (fVar 1) (fCons (fC (.int 1)) (fCons (fC (.int 60)) fNil))))))
  (sSeq (sFor (fSeq (fVar 2)) (gSet 3) (sIf (fTru (fOfL (fLc (fRng2 (fC (.int 1)) (fVar 3)) (gSet 4) (fAnd (fBool (f2 oEq (f2 oMul (f2 oDiv (fVar 3) (fVar 4)) (fVar 4)) (fVar 3))) (fBool (f2 oNotIn (fVar 4) (fVar 2)))) (fVar 4) [4]))) (sRet (fC (.bool false))) sNil))
  (sRet (f2 oEq (fOfL (fLc (fRng2 (fC (.int 1)) (f2 oAdd (fB oMin (fCons (f2 oAdd (fOfL (fLst (fCons (f2 oAdd (f2 oMul (fC (.int 2)) (fVar 1)) (fC (.int 1))) fNil))) (fOfL (fBL oListOf (fCons (fVar 0) fNil)))) fNil)) (fC (.int 1)))) (gSet 4) (fAnd (fBool (f2 oLt (fVar 4) (fC (.int 61)))) (fBool (f2 oNotIn (fVar 4) (fVar 2)))) (fVar 4) [4])) (fOfL (fLst fNil))))))
abbrev s_judge_unit : Stmt := topS 15
abbrev N_judge_unit : List Str := [PySem.Str.ofString "weights", PySem.Str.ofString "slack", PySem.Str.ofString "unit", PySem.Str.ofString "own", PySem.Str.ofString "times", PySem.Str.ofString "at"]
theorem S_judge_unit : FnScope N_judge_unit [PySem.Str.ofString "weights", PySem.Str.ofString "slack", PySem.Str.ofString "unit"] (defScope s_judge_unit) := ⟨rfl, rfl, rfl, by decide +kernel, rfl, by decide +kernel, by decide +kernel⟩
noncomputable def g_judge_unit : SF := (sSeq (sDrop (fCall g_check_weights 1 1 [] (fCons (fVar 0) fNil)))
  (sSeq (sDrop (fCall g_check_slack 1 0 [] (fCons (fVar 1) fNil)))
  (sSeq (sDrop (fCall g_check_unit 2 0 [.str (PySem.Str.ofString "unit")] (fCons (fVar 2) fNil)))
  (sSeq (sAsg (gSet 4) (fOfL (fLc (fSeq (fVar 0)) (gSet 3) fYes (fCall g_nearest 2 1 [] (fCons (fVar 3) (fCons (fVar 2) fNil))) [3])))
  (sSeq (sFor (fEnum (fVar 0)) (gTup' (gCons' (gSet 5) (gCons' (gSet 3) gNil'))) (sIf (fBool (f2 oGt (fB oAbs (fCons (f2 oSub (fVar 3) (f2 oMul (f2 oIx (fVar 4) (fVar 5)) (fVar 2))) fNil)) (fVar 1))) (sRet (fTup (fCons (fC (.str (PySem.Str.ofString "off"))) (fCons (fVar 5) (fCons (f2 oSub (fVar 3) (f2 oMul (f2 oIx (fVar 4) (fVar 5)) (fVar 2))) fNil))))) sNil))
  (sRet (fTup (fCons (fC (.str (PySem.Str.ofString "fits"))) (fCons (fB oTuple (fCons (fVar 4) fNil)) fNil)))))))))
abbrev s_off_weights : Stmt := topS 26
abbrev N_off_weights : List Str := [PySem.Str.ofString "weights", PySem.Str.ofString "slack", PySem.Str.ofString "unit", PySem.Str.ofString "at", PySem.Str.ofString "own"]
theorem S_off_weights : FnScope N_off_weights [PySem.Str.ofString "weights", PySem.Str.ofString "slack", PySem.Str.ofString "unit"] (defScope s_off_weights) := ⟨rfl, rfl, rfl, by decide +kernel, rfl, by decide +kernel, by decide +kernel⟩
noncomputable def g_off_weights : SF := (sSeq (sDrop (fCall g_check_weights 1 1 [] (fCons (fVar 0) fNil)))
  (sSeq (sDrop (fCall g_check_slack 1 0 [] (fCons (fVar 1) fNil)))
  (sSeq (sDrop (fCall g_check_unit 2 0 [.str (PySem.Str.ofString "unit")] (fCons (fVar 2) fNil)))
  (sRet (fB oTuple (fCons (fOfL (fLc (fEnum (fVar 0)) (gTup' (gCons' (gSet 3) (gCons' (gSet 4) gNil'))) (fBool (f2 oGt (fB oAbs (fCons (f2 oSub (fVar 4) (f2 oMul (fCall g_nearest 2 1 [] (fCons (fVar 4) (fCons (fVar 2) fNil))) (fVar 2))) fNil)) (fVar 1))) (fVar 3) [3, 4])) fNil))))))
abbrev s_accept_times : Stmt := topS 21
abbrev N_accept_times : List Str := [PySem.Str.ofString "weights", PySem.Str.ofString "slack", PySem.Str.ofString "unit", PySem.Str.ofString "times", PySem.Str.ofString "own", PySem.Str.ofString "many"]
theorem S_accept_times : FnScope N_accept_times [PySem.Str.ofString "weights", PySem.Str.ofString "slack", PySem.Str.ofString "unit", PySem.Str.ofString "times"] (defScope s_accept_times) := ⟨rfl, rfl, rfl, by decide +kernel, rfl, by decide +kernel, by decide +kernel⟩
noncomputable def g_accept_times : SF := (sSeq (sDrop (fCall g_check_weights 1 1 [] (fCons (fVar 0) fNil)))
  (sSeq (sDrop (fCall g_check_slack 1 0 [] (fCons (fVar 1) fNil)))
  (sSeq (sDrop (fCall g_check_unit 2 0 [.str (PySem.Str.ofString "unit")] (fCons (fVar 2) fNil)))
  (sSeq (sIf (fOr (fNot (fTru (f1 (isKind "tuple") (fVar 3)))) (fBool (f2 oNe (fB oLen (fCons (fVar 3) fNil)) (fB oLen (fCons (fVar 0) fNil))))) sNever sNil)
  (sSeq (sIf (fNot (fTru (fB oAll (fCons (fOfL (fLc (fSeq (fVar 3)) (gSet 4) fYes (fAndT (fCall g_is_integer 1 0 [] (fCons (fVar 4) fNil)) (f2 oGe (fVar 4) (fC (.int 1)))) [4])) fNil)))) sNever sNil)
  (sIf (fTru (fOfL (fLc (fZip (fVar 0) (fVar 3)) (gTup' (gCons' (gSet 4) (gCons' (gSet 5) gNil'))) (fBool (f2 oGt (fB oAbs (fCons (f2 oSub (fVar 4) (f2 oMul (fVar 5) (fVar 2))) fNil)) (fVar 1))) (fC (.int 1)) [4, 5]))) sNever sNil))))))
abbrev s_closest_unit : Stmt := topS 20
abbrev N_closest_unit : List Str := [PySem.Str.ofString "weights", PySem.Str.ofString "low", PySem.Str.ofString "high", PySem.Str.ofString "unit", PySem.Str.ofString "own", PySem.Str.ofString "rows", PySem.Str.ofString "gap"]
theorem S_closest_unit : FnScope N_closest_unit [PySem.Str.ofString "weights", PySem.Str.ofString "low", PySem.Str.ofString "high"] (defScope s_closest_unit) := ⟨rfl, rfl, rfl, by decide +kernel, rfl, by decide +kernel, by decide +kernel⟩
noncomputable def g_closest_unit : SF := (sSeq (sDrop (fCall g_check_range 4 0 [] (fCons (fVar 0) (fCons (fC (.int 0)) (fCons (fVar 1) (fCons (fVar 2) fNil))))))
  (sSeq (sAsg (gSet 5) (fOfL (fLc (fRng2 (fVar 1) (f2 oAdd (fVar 2) (fC (.int 1)))) (gSet 3) fYes (fTup (fCons (fB oMax (fCons (fOfL (fLc (fSeq (fVar 0)) (gSet 4) fYes (fB oAbs (fCons (f2 oSub (fVar 4) (f2 oMul (fCall g_nearest 2 1 [] (fCons (fVar 4) (fCons (fVar 3) fNil))) (fVar 3))) fNil)) [4])) fNil)) (fCons (f1 oNeg (fVar 3)) fNil))) [3])))
  (sSeq (sAsg (gTup' (gCons' (gSet 6) (gCons' (gSet 3) gNil'))) (fB oMin (fCons (fVar 5) fNil)))
  (sRet (fTup (fCons (fVar 6) (fCons (f1 oNeg (fVar 3)) fNil)))))))
abbrev s__law_stretched_holds : Stmt := topS 34
abbrev N__law_stretched_holds : List Str := [PySem.Str.ofString "state", PySem.Str.ofString "weights", PySem.Str.ofString "slack", PySem.Str.ofString "far_v", PySem.Str.ofString "own", PySem.Str.ofString "wide", PySem.Str.ofString "good", PySem.Str.ofString "more", PySem.Str.ofString "unit", PySem.Str.ofString "told", PySem.Str.ofString "other", PySem.Str.ofString "heavy", PySem.Str.ofString "again", PySem.Str.ofString "k"]
theorem S__law_stretched_holds : FnScope N__law_stretched_holds [PySem.Str.ofString "state", PySem.Str.ofString "weights", PySem.Str.ofString "slack"] (defScope s__law_stretched_holds) := ⟨rfl, rfl, rfl, by decide +kernel, rfl, by decide +kernel, by decide +kernel⟩
noncomputable def g__law_stretched_holds : SF := (sSeq (sAsg (gSet 3) (f2 oAdd (fC (.int 2)) (fCall g__law_draw 2 1 [] (fCons (fVar 0) (fCons (fC (.int 4)) fNil)))))
  (sSeq (sAsg (gSet 5) (fB oTuple (fCons (fOfL (fLc (fSeq (fVar 1)) (gSet 4) fYes (f2 oMul (fVar 3) (fVar 4)) [4])) fNil)))
  (sSeq (sPar [6, 7] (pE (fCall g_good_units 4 1 [] (fCons (fVar 1) (fCons (fVar 2) (fCons (fC (.int 1)) (fCons (fC (.int 40)) fNil))))) (pE (fCall g_good_units 4 1 [] (fCons (fVar 5) (fCons (f2 oMul (fVar 3) (fVar 2)) (fCons (fC (.int 1)) (fCons (f2 oMul (fC (.int 40)) (fVar 3)) fNil))))) pNil)))
  (sSeq (sIf (fOr (fBool (f2 oNe (fOfL (fLc (fSeq (fVar 7)) (gSet 4) (fBool (f2 oEq (f2 oMul (f2 oDiv (fVar 4) (fVar 3)) (fVar 3)) (fVar 4))) (fVar 4) [4])) (fOfL (fLc (fSeq (fVar 6)) (gSet 4) fYes (f2 oMul (fVar 3) (fVar 4)) [4])))) (fBool (f2 oGt (f2 oIx (fCall g_closest_unit 3 4 [] (fCons (fVar 5) (fCons (fVar 3) (fCons (f2 oMul (fC (.int 40)) (fVar 3)) fNil)))) (fC (.int 0))) (f2 oMul (fVar 3) (f2 oIx (fCall g_closest_unit 3 4 [] (fCons (fVar 1) (fCons (fC (.int 1)) (fCons (fC (.int 40)) fNil)))) (fC (.int 0))))))) (sRet (fC (.bool false))) sNil)
  (sSeq (sAsg (gSet 8) (f2 oAdd (fC (.int 1)) (fCall g__law_draw 2 1 [] (fCons (fVar 0) (fCons (fC (.int 40)) fNil)))))
  (sSeq (sPar [9, 10] (pE (fCall g_judge_unit 3 3 [] (fCons (fVar 1) (fCons (fVar 2) (fCons (fVar 8) fNil)))) (pE (fCall g_judge_unit 3 3 [] (fCons (fVar 5) (fCons (f2 oMul (fVar 3) (fVar 2)) (fCons (f2 oMul (fVar 3) (fVar 8)) fNil)))) pNil)))
  (sSeq (sIf (fOr (fBool (f2 oNe (fVar 10) (fIfE (fBool (f2 oEq (f2 oIx (fVar 9) (fC (.int 0))) (fC (.str (PySem.Str.ofString "fits"))))) (fVar 9) (fTup (fCons (fC (.str (PySem.Str.ofString "off"))) (fCons (f2 oIx (fVar 9) (fC (.int 1))) (fCons (f2 oMul (fVar 3) (f2 oIx (fVar 9) (fC (.int 2)))) fNil))))))) (fBool (f2 oNe (fCall g_off_weights 3 2 [] (fCons (fVar 5) (fCons (f2 oMul (fVar 3) (fVar 2)) (fCons (f2 oMul (fVar 3) (fVar 8)) fNil)))) (fCall g_off_weights 3 2 [] (fCons (fVar 1) (fCons (fVar 2) (fCons (fVar 8) fNil))))))) (sRet (fC (.bool false))) sNil)
  (sSeq (sIf (fAnd (fBool (f2 oEq (f2 oIx (fVar 9) (fC (.int 0))) (fC (.str (PySem.Str.ofString "fits"))))) (fBool (fNotN (fCall g_accept_times 4 2 [] (fCons (fVar 5) (fCons (f2 oMul (fVar 3) (fVar 2)) (fCons (f2 oMul (fVar 3) (fVar 8)) (fCons (f2 oIx (fVar 9) (fC (.int 1))) fNil)))))))) (sRet (fC (.bool false))) sNil)
  (sSeq (sAsg (gSet 11) (fB oTuple (fCons (fOfL (fLc (fSeq (fVar 1)) (gSet 4) fYes (fIfE (fBool (f2 oGe (fVar 4) (fVar 8))) (f2 oAdd (fVar 4) (fVar 8)) (fVar 4)) [4])) fNil)))
  (sSeq (sIf (fBool (f2 oNe (fCall g_off_weights 3 2 [] (fCons (fVar 11) (fCons (fVar 2) (fCons (fVar 8) fNil)))) (fCall g_off_weights 3 2 [] (fCons (fVar 1) (fCons (fVar 2) (fCons (fVar 8) fNil)))))) (sRet (fC (.bool false))) sNil)
  (sSeq (sAsg (gSet 12) (fCall g_judge_unit 3 3 [] (fCons (fVar 11) (fCons (fVar 2) (fCons (fVar 8) fNil)))))
  (sSeq (sIf (fBool (f2 oEq (f2 oIx (fVar 9) (fC (.int 0))) (fC (.str (PySem.Str.ofString "off"))))) (sRet (f2 oEq (fVar 12) (fVar 9))) sNil)
  (sRet (f2 oEq (fVar 12) (fTup (fCons (fC (.str (PySem.Str.ofString "fits"))) (fCons (fB oTuple (fCons (fOfL (fLc (fRng1 (fB oLen (fCons (fVar 1) fNil))) (gSet 13) fYes (f2 oAdd (f2 oIx (f2 oIx (fVar 9) (fC (.int 1))) (fVar 13)) (fIfE (fBool (f2 oGe (f2 oIx (fVar 1) (fVar 13)) (fVar 8))) (fC (.int 1)) (fC (.int 0)))) [13])) fNil)) fNil)))))))))))))))))
abbrev s_far : Stmt := topS 24
abbrev N_far : List Str := [PySem.Str.ofString "weight", PySem.Str.ofString "slack", PySem.Str.ofString "unit", PySem.Str.ofString "times"]
theorem S_far : FnScope N_far [PySem.Str.ofString "weight", PySem.Str.ofString "slack", PySem.Str.ofString "unit"] (defScope s_far) := ⟨rfl, rfl, rfl, by decide +kernel, rfl, by decide +kernel, by decide +kernel⟩
noncomputable def g_far : SF := (sSeq (sIf (fBool (f2 oLe (fB oAbs (fCons (f2 oSub (fVar 0) (f2 oMul (fCall g_nearest 2 1 [] (fCons (fVar 0) (fCons (fVar 2) fNil))) (fVar 2))) fNil)) (fVar 1))) (sRet (f2 oSub (fVar 2) (fC (.int 1)))) sNil)
  (sSeq (sAsg (gSet 3) (f2 oDiv (fVar 0) (fVar 2)))
  (sSeq (sIf (fBool (f2 oEq (fVar 3) (fC (.int 0)))) (sRet (fC (.int 100000))) sNil)
  (sRet (f2 oDiv (f2 oSub (f2 oSub (fVar 0) (fVar 1)) (fC (.int 1))) (fVar 3))))))
abbrev s_rows_against : Stmt := topS 23
abbrev N_rows_against : List Str := [PySem.Str.ofString "weights", PySem.Str.ofString "slack", PySem.Str.ofString "low", PySem.Str.ofString "high", PySem.Str.ofString "rows", PySem.Str.ofString "unit", PySem.Str.ofString "own", PySem.Str.ofString "ends"]
theorem S_rows_against : FnScope N_rows_against [PySem.Str.ofString "weights", PySem.Str.ofString "slack", PySem.Str.ofString "low", PySem.Str.ofString "high"] (defScope s_rows_against) := ⟨rfl, rfl, rfl, by decide +kernel, rfl, by decide +kernel, by decide +kernel⟩
noncomputable def g_rows_against : SF := (sSeq (sDrop (fCall g_check_range 4 0 [] (fCons (fVar 0) (fCons (fVar 1) (fCons (fVar 2) (fCons (fVar 3) fNil))))))
  (sSeq (sAsgL 4 (fLst fNil))
  (sSeq (sAsg (gSet 5) (fVar 2))
  (sSeq (sWhile (fBool (f2 oLe (fVar 5) (fVar 3))) (sSeq (sAsg (gSet 7) (fOfL (fLc (fSeq (fVar 0)) (gSet 6) fYes (fB oMin (fCons (fCall g_far 3 1 [] (fCons (fVar 6) (fCons (fVar 1) (fCons (fVar 5) fNil)))) (fCons (fVar 3) fNil))) [6])))
  (sSeq (sIf (fBool (f2 oLt (fB oMax (fCons (fVar 7) fNil)) (fVar 5))) (sRet (fC .none)) sNil)
  (sSeq (sApp 4 (fTup (fCons (fMethL oIndex (fVar 7) (fB oMax (fCons (fVar 7) fNil))) (fCons (fVar 5) (fCons (fB oMax (fCons (fVar 7) fNil)) fNil)))))
  (sAsg (gSet 5) (f2 oAdd (fB oMax (fCons (fVar 7) fNil)) (fC (.int 1))))))))
  (sRet (fB oTuple (fCons (fVar 4) fNil)))))))
abbrev s_greatest_unit : Stmt := topS 19
abbrev N_greatest_unit : List Str := [PySem.Str.ofString "weights", PySem.Str.ofString "slack", PySem.Str.ofString "low", PySem.Str.ofString "high", PySem.Str.ofString "units"]
theorem S_greatest_unit : FnScope N_greatest_unit [PySem.Str.ofString "weights", PySem.Str.ofString "slack", PySem.Str.ofString "low", PySem.Str.ofString "high"] (defScope s_greatest_unit) := ⟨rfl, rfl, rfl, by decide +kernel, rfl, by decide +kernel, by decide +kernel⟩
noncomputable def g_greatest_unit : SF := (sSeq (sAsg (gSet 4) (fCall g_good_units 4 1 [] (fCons (fVar 0) (fCons (fVar 1) (fCons (fVar 2) (fCons (fVar 3) fNil))))))
  (sRet (fIfE (fTru (fVar 4)) (f2 oIx (fVar 4) (f1 oNeg (fC (.int 1)))) (fC .none))))
abbrev s_accept_none : Stmt := topS 22
abbrev N_accept_none : List Str := [PySem.Str.ofString "weights", PySem.Str.ofString "slack", PySem.Str.ofString "low", PySem.Str.ofString "high", PySem.Str.ofString "rows", PySem.Str.ofString "row", PySem.Str.ofString "own", PySem.Str.ofString "at", PySem.Str.ofString "first", PySem.Str.ofString "last", PySem.Str.ofString "begin", PySem.Str.ofString "times"]
theorem S_accept_none : FnScope N_accept_none [PySem.Str.ofString "weights", PySem.Str.ofString "slack", PySem.Str.ofString "low", PySem.Str.ofString "high", PySem.Str.ofString "rows"] (defScope s_accept_none) := ⟨rfl, rfl, rfl, by decide +kernel, rfl, by decide +kernel, by decide +kernel⟩
noncomputable def g_accept_none : SF := (sSeq (sDrop (fCall g_check_range 4 0 [] (fCons (fVar 0) (fCons (fVar 1) (fCons (fVar 2) (fCons (fVar 3) fNil))))))
  (sSeq (sIf (fOr (fNot (fTru (f1 (isKind "tuple") (fVar 4)))) (fNot (fTru (fB oAll (fCons (fOfL (fLc (fSeq (fVar 4)) (gSet 5) fYes (fAndT (f1 (isKind "tuple") (fVar 5)) (f2 oEq (fB oLen (fCons (fVar 5) fNil)) (fC (.int 3)))) [5])) fNil))))) sNever sNil)
  (sSeq (sIf (fNot (fTru (fB oAll (fCons (fOfL (fLc2 (fSeq (fVar 4)) (gSet 5) fYes (fSeq (fVar 5)) (gSet 6) fYes (fCall g_is_integer 1 0 [] (fCons (fVar 6) fNil)) [5, 6] [6])) fNil)))) sNever sNil)
  (sSeq (sIf (fTru (fOfL (fLc (fSeq (fVar 4)) (gTup' (gCons' (gSet 7) (gCons' (gSet 8) (gCons' (gSet 9) gNil')))) (fNot (fBool (fChain oLe oLt (fC (.int 0)) (fVar 7) (fB oLen (fCons (fVar 0) fNil))))) (fVar 7) [7, 8, 9]))) sNever sNil)
  (sSeq (sAsg (gSet 10) (fVar 2))
  (sSeq (sFor (fSeq (fVar 4)) (gTup' (gCons' (gSet 7) (gCons' (gSet 8) (gCons' (gSet 9) gNil')))) (sSeq (sIf (fOr (fBool (f2 oNe (fVar 8) (fVar 10))) (fBool (f2 oLt (fVar 9) (fVar 8)))) sNever sNil)
  (sAsg (gSet 10) (f2 oAdd (fVar 9) (fC (.int 1))))))
  (sSeq (sIf (fBool (f2 oNe (fVar 10) (f2 oAdd (fVar 3) (fC (.int 1))))) sNever sNil)
  (sFor (fSeq (fVar 4)) (gTup' (gCons' (gSet 7) (gCons' (gSet 8) (gCons' (gSet 9) gNil')))) (sSeq (sAsg (gSet 6) (f2 oIx (fVar 0) (fVar 7)))
  (sSeq (sAsg (gSet 11) (f2 oDiv (fVar 6) (fVar 9)))
  (sIf (fOr (fAnd (fBool (f2 oGt (fVar 11) (fC (.int 0)))) (fBool (f2 oLe (f2 oSub (fVar 6) (f2 oMul (fVar 11) (fVar 9))) (fVar 1)))) (fBool (f2 oLe (f2 oSub (f2 oMul (f2 oAdd (fVar 11) (fC (.int 1))) (fVar 8)) (fVar 6)) (fVar 1)))) sNever sNil)))))))))))
abbrev s__law_closest_holds : Stmt := topS 35
abbrev N__law_closest_holds : List Str := [PySem.Str.ofString "state", PySem.Str.ofString "weights", PySem.Str.ofString "low", PySem.Str.ofString "high", PySem.Str.ofString "gap", PySem.Str.ofString "unit", PySem.Str.ofString "rows", PySem.Str.ofString "own"]
theorem S__law_closest_holds : FnScope N__law_closest_holds [PySem.Str.ofString "state", PySem.Str.ofString "weights"] (defScope s__law_closest_holds) := ⟨rfl, rfl, rfl, by decide +kernel, rfl, by decide +kernel, by decide +kernel⟩
noncomputable def g__law_closest_holds : SF := (sSeq (sAsg (gSet 2) (f2 oAdd (fC (.int 1)) (fCall g__law_draw 2 1 [] (fCons (fVar 0) (fCons (fC (.int 20)) fNil)))))
  (sSeq (sAsg (gSet 3) (f2 oAdd (fVar 2) (fCall g__law_draw 2 1 [] (fCons (fVar 0) (fCons (fC (.int 40)) fNil)))))
  (sSeq (sAsg (gTup' (gCons' (gSet 4) (gCons' (gSet 5) gNil'))) (fCall g_closest_unit 3 4 [] (fCons (fVar 1) (fCons (fVar 2) (fCons (fVar 3) fNil)))))
  (sSeq (sIf (fOr (fBool (f2 oNe (fCall g_greatest_unit 4 1 [] (fCons (fVar 1) (fCons (fVar 4) (fCons (fVar 2) (fCons (fVar 3) fNil))))) (fVar 5))) (fOr (fBool (fNotN (fCall g_rows_against 4 4 [] (fCons (fVar 1) (fCons (fVar 4) (fCons (fVar 2) (fCons (fVar 3) fNil))))))) (fBool (f2 oNe (f2 oIx (fCall g_judge_unit 3 3 [] (fCons (fVar 1) (fCons (fVar 4) (fCons (fVar 5) fNil)))) (fC (.int 0))) (fC (.str (PySem.Str.ofString "fits"))))))) (sRet (fC (.bool false))) sNil)
  (sSeq (sIf (fBool (f2 oGt (fVar 4) (fC (.int 0)))) (sSeq (sAsg (gSet 6) (fCall g_rows_against 4 4 [] (fCons (fVar 1) (fCons (f2 oSub (fVar 4) (fC (.int 1))) (fCons (fVar 2) (fCons (fVar 3) fNil))))))
  (sIf (fOr (fBool (fIsN (fVar 6))) (fOr (fBool (fNotN (fCall g_accept_none 5 7 [] (fCons (fVar 1) (fCons (f2 oSub (fVar 4) (fC (.int 1))) (fCons (fVar 2) (fCons (fVar 3) (fCons (fVar 6) fNil)))))))) (fBool (f2 oNe (fCall g_good_units 4 1 [] (fCons (fVar 1) (fCons (f2 oSub (fVar 4) (fC (.int 1))) (fCons (fVar 2) (fCons (fVar 3) fNil))))) (fTup fNil))))) (sRet (fC (.bool false))) sNil)) sNil)
  (sRet (f2 oEq (fOfL (fLc (fRng2 (fVar 2) (f2 oAdd (fVar 3) (fC (.int 1)))) (gSet 7) (fAnd (fBool (f2 oEq (f2 oIx (fCall g_judge_unit 3 3 [] (fCons (fVar 1) (fCons (fVar 4) (fCons (fVar 7) fNil)))) (fC (.int 0))) (fC (.str (PySem.Str.ofString "fits"))))) (fBool (f2 oGt (fVar 7) (fVar 5)))) (fVar 7) [7])) (fOfL (fLst fNil)))))))))
abbrev s_common_unit : Stmt := topS 25
abbrev N_common_unit : List Str := [PySem.Str.ofString "weights", PySem.Str.ofString "found", PySem.Str.ofString "own"]
theorem S_common_unit : FnScope N_common_unit [PySem.Str.ofString "weights"] (defScope s_common_unit) := ⟨rfl, rfl, rfl, by decide +kernel, rfl, by decide +kernel, by decide +kernel⟩
noncomputable def g_common_unit : SF := (sSeq (sDrop (fCall g_check_weights 1 1 [] (fCons (fVar 0) fNil)))
  (sSeq (sAsg (gSet 1) (f2 oIx (fVar 0) (fC (.int 0))))
  (sSeq (sFor (fSeq (fSl (fVar 0) (fPart (fC (.int 1))) fNoPart)) (gSet 2) (sWhile (fTru (fVar 2)) (sPar [1, 2] (pE (fVar 2) (pE (f2 oMod (fVar 1) (fVar 2)) pNil)))))
  (sRet (fVar 1)))))
abbrev s__law_same : Stmt := topS 31
abbrev N__law_same : List Str := [PySem.Str.ofString "actual", PySem.Str.ofString "due"]
theorem S__law_same : FnScope N__law_same [PySem.Str.ofString "actual", PySem.Str.ofString "due"] (defScope s__law_same) := ⟨rfl, rfl, rfl, by decide +kernel, rfl, by decide +kernel, by decide +kernel⟩
noncomputable def g__law_same : SF := (sRet (fAndT (f2 oEq (fVar 0) (fVar 1)) (f2 oEq (fB oRepr (fCons (fVar 0) fNil)) (fB oRepr (fCons (fVar 1) fNil)))))
abbrev s__law_heaps_hold : Stmt := topS 36
abbrev N__law_heaps_hold : List Str := [PySem.Str.ofString "state", PySem.Str.ofString "weights", PySem.Str.ofString "slack", PySem.Str.ofString "other", PySem.Str.ofString "own", PySem.Str.ofString "one", PySem.Str.ofString "two", PySem.Str.ofString "both", PySem.Str.ofString "unit", PySem.Str.ofString "off", PySem.Str.ofString "weight", PySem.Str.ofString "exact"]
theorem S__law_heaps_hold : FnScope N__law_heaps_hold [PySem.Str.ofString "state", PySem.Str.ofString "weights", PySem.Str.ofString "slack"] (defScope s__law_heaps_hold) := ⟨rfl, rfl, rfl, by decide +kernel, rfl, by decide +kernel, by decide +kernel⟩
noncomputable def g__law_heaps_hold : SF := (sSeq (sAsg (gSet 3) (fCall g__law_weights 1 3 [] (fCons (fVar 0) fNil)))
  (sSeq (sAsg (gUnl' (gCons' (gSet 5) (gCons' (gSet 6) (gCons' (gSet 7) gNil')))) (fOfL (fLc (fSeq (fOfL (fLst (fCons (fVar 1) (fCons (fVar 3) (fCons (f2 oAdd (fVar 1) (fVar 3)) fNil)))))) (gSet 4) fYes (fCall g_good_units 4 1 [] (fCons (fVar 4) (fCons (fVar 2) (fCons (fC (.int 1)) (fCons (fC (.int 60)) fNil))))) [4])))
  (sSeq (sIf (fOr (fBool (f2 oNe (fVar 7) (fB oTuple (fCons (fOfL (fLc (fSeq (fVar 5)) (gSet 4) (fBool (f2 oIn (fVar 4) (fVar 6))) (fVar 4) [4])) fNil)))) (fBool (f2 oNe (fCall g_common_unit 1 2 [] (fCons (f2 oAdd (fVar 1) (fVar 3)) fNil)) (fCall g_common_unit 1 2 [] (fCons (fTup (fCons (fCall g_common_unit 1 2 [] (fCons (fVar 1) fNil)) (fCons (fCall g_common_unit 1 2 [] (fCons (fVar 3) fNil)) fNil))) fNil))))) (sRet (fC (.bool false))) sNil)
  (sSeq (sAsg (gSet 8) (f2 oAdd (fC (.int 1)) (fCall g__law_draw 2 1 [] (fCons (fVar 0) (fCons (fC (.int 30)) fNil)))))
  (sSeq (sAsg (gSet 9) (f2 oAdd (fCall g_off_weights 3 2 [] (fCons (fVar 1) (fCons (fVar 2) (fCons (fVar 8) fNil)))) (fB oTuple (fCons (fOfL (fLc (fSeq (fCall g_off_weights 3 2 [] (fCons (fVar 3) (fCons (fVar 2) (fCons (fVar 8) fNil))))) (gSet 4) fYes (f2 oAdd (fVar 4) (fB oLen (fCons (fVar 1) fNil))) [4])) fNil))))
  (sSeq (sIf (fOr (fNot (fTru (fCall g__law_same 2 0 [] (fCons (fCall g_off_weights 3 2 [] (fCons (f2 oAdd (fVar 1) (fVar 3)) (fCons (fVar 2) (fCons (fVar 8) fNil)))) (fCons (fVar 9) fNil))))) (fBool (f2 oNe (fCall g_good_units 4 1 [] (fCons (f2 oAdd (fVar 1) (fVar 1)) (fCons (fVar 2) (fCons (fC (.int 1)) (fCons (fC (.int 60)) fNil))))) (fVar 5)))) (sRet (fC (.bool false))) sNil)
  (sSeq (sAsg (gSet 11) (fOfL (fLc (fRng2 (fC (.int 1)) (fC (.int 61))) (gSet 4) (fBool (f2 oEq (fOfL (fLc (fSeq (fVar 1)) (gSet 10) (fBool (f2 oNe (f2 oMul (f2 oDiv (fVar 10) (fVar 4)) (fVar 4)) (fVar 10))) (fVar 10) [10])) (fOfL (fLst fNil)))) (fVar 4) [4])))
  (sRet (fAndT (f2 oEq (fCall g_good_units 4 1 [] (fCons (fVar 1) (fCons (fC (.int 0)) (fCons (fC (.int 1)) (fCons (fC (.int 60)) fNil))))) (fB oTuple (fCons (fVar 11) fNil))) (f2 oEq (fOfL (fLc (fSeq (fVar 11)) (gSet 4) (fBool (f2 oNe (f2 oMul (f2 oDiv (fCall g_common_unit 1 2 [] (fCons (fVar 1) fNil)) (fVar 4)) (fVar 4)) (fCall g_common_unit 1 2 [] (fCons (fVar 1) fNil)))) (fVar 4) [4])) (fOfL (fLst fNil))))))))))))
abbrev s_law : Stmt := topS 37
abbrev N_law : List Str := [PySem.Str.ofString "script", PySem.Str.ofString "state", PySem.Str.ofString "turn", PySem.Str.ofString "weights", PySem.Str.ofString "slack"]
theorem S_law : FnScope N_law [PySem.Str.ofString "script"] (defScope s_law) := ⟨rfl, rfl, rfl, by decide +kernel, rfl, by decide +kernel, by decide +kernel⟩
noncomputable def g_law : SF := (sSeq (sAsgL 1 (fCallL h__law_start 1 2 (fCons (fVar 0) fNil)))
  (sSeq (sFor (fRng1 (fC (.int 3))) (gSet 2) (sSeq (sPar [3, 4] (pE (fCall g__law_weights 1 3 [] (fCons (fVar 1) fNil)) (pE (fCall g__law_draw 2 1 [] (fCons (fVar 1) (fCons (fC (.int 6)) fNil))) pNil)))
  (sSeq (sIf (fOr (fNot (fTru (fCall g__law_divisors_hold 2 3 [] (fCons (fVar 3) (fCons (fVar 4) fNil))))) (fNot (fTru (fCall g__law_stretched_holds 3 11 [] (fCons (fVar 1) (fCons (fVar 3) (fCons (fVar 4) fNil))))))) (sRet (fC (.bool false))) sNil)
  (sIf (fOr (fNot (fTru (fCall g__law_closest_holds 2 6 [] (fCons (fVar 1) (fCons (fVar 3) fNil))))) (fNot (fTru (fCall g__law_heaps_hold 3 9 [] (fCons (fVar 1) (fCons (fVar 3) (fCons (fVar 4) fNil))))))) (sRet (fC (.bool false))) sNil))))
  (sRet (fC (.bool true)))))
structure Top (K : PySem.W.Frag) (mg : Str → Option Value) : Prop where
  d__law_start : ∃ f fd, Df K mg (PySem.Str.ofString "_law_start") s__law_start [] f fd
  d__law_draw : ∃ f fd, Df K mg (PySem.Str.ofString "_law_draw") s__law_draw [] f fd
  d__law_weights : ∃ f fd, Df K mg (PySem.Str.ofString "_law_weights") s__law_weights [] f fd
  d_is_integer : ∃ f fd, Df K mg (PySem.Str.ofString "is_integer") s_is_integer [] f fd
  d_check_weights : ∃ f fd, Df K mg (PySem.Str.ofString "check_weights") s_check_weights [] f fd
  d_check_slack : ∃ f fd, Df K mg (PySem.Str.ofString "check_slack") s_check_slack [] f fd
  d_check_unit : ∃ f fd, Df K mg (PySem.Str.ofString "check_unit") s_check_unit [V.str (PySem.Str.ofString "unit")] f fd
  d_check_range : ∃ f fd, Df K mg (PySem.Str.ofString "check_range") s_check_range [] f fd
  d_nearest : ∃ f fd, Df K mg (PySem.Str.ofString "nearest") s_nearest [] f fd
  d_is_good : ∃ f fd, Df K mg (PySem.Str.ofString "is_good") s_is_good [] f fd
  d_good_units : ∃ f fd, Df K mg (PySem.Str.ofString "good_units") s_good_units [] f fd
  d__law_divisors_hold : ∃ f fd, Df K mg (PySem.Str.ofString "_law_divisors_hold") s__law_divisors_hold [] f fd
  d_judge_unit : ∃ f fd, Df K mg (PySem.Str.ofString "judge_unit") s_judge_unit [] f fd
  d_off_weights : ∃ f fd, Df K mg (PySem.Str.ofString "off_weights") s_off_weights [] f fd
  d_accept_times : ∃ f fd, Df K mg (PySem.Str.ofString "accept_times") s_accept_times [] f fd
  d_closest_unit : ∃ f fd, Df K mg (PySem.Str.ofString "closest_unit") s_closest_unit [] f fd
  d__law_stretched_holds : ∃ f fd, Df K mg (PySem.Str.ofString "_law_stretched_holds") s__law_stretched_holds [] f fd
  d_far : ∃ f fd, Df K mg (PySem.Str.ofString "far") s_far [] f fd
  d_rows_against : ∃ f fd, Df K mg (PySem.Str.ofString "rows_against") s_rows_against [] f fd
  d_greatest_unit : ∃ f fd, Df K mg (PySem.Str.ofString "greatest_unit") s_greatest_unit [] f fd
  d_accept_none : ∃ f fd, Df K mg (PySem.Str.ofString "accept_none") s_accept_none [] f fd
  d__law_closest_holds : ∃ f fd, Df K mg (PySem.Str.ofString "_law_closest_holds") s__law_closest_holds [] f fd
  d_common_unit : ∃ f fd, Df K mg (PySem.Str.ofString "common_unit") s_common_unit [] f fd
  d__law_same : ∃ f fd, Df K mg (PySem.Str.ofString "_law_same") s__law_same [] f fd
  d__law_heaps_hold : ∃ f fd, Df K mg (PySem.Str.ofString "_law_heaps_hold") s__law_heaps_hold [] f fd
  d_law : ∃ f fd, Df K mg (PySem.Str.ofString "law") s_law [] f fd
  b_abs : mg (PySem.Str.ofString "abs") = none
  b_all : mg (PySem.Str.ofString "all") = none
  b_bool : mg (PySem.Str.ofString "bool") = none
  b_enumerate : mg (PySem.Str.ofString "enumerate") = none
  b_int : mg (PySem.Str.ofString "int") = none
  b_isinstance : mg (PySem.Str.ofString "isinstance") = none
  b_len : mg (PySem.Str.ofString "len") = none
  b_list : mg (PySem.Str.ofString "list") = none
  b_max : mg (PySem.Str.ofString "max") = none
  b_min : mg (PySem.Str.ofString "min") = none
  b_range : mg (PySem.Str.ofString "range") = none
  b_repr : mg (PySem.Str.ofString "repr") = none
  b_tuple : mg (PySem.Str.ofString "tuple") = none
  b_zip : mg (PySem.Str.ofString "zip") = none
  k_MAX_COINS : ∃ t, mg (PySem.Str.ofString "MAX_COINS") = some (.int 60 t)
  k_MAX_LOOKED : ∃ t, mg (PySem.Str.ofString "MAX_LOOKED") = some (.int 20000 t)
  k_MAX_UNIT : ∃ t, mg (PySem.Str.ofString "MAX_UNIT") = some (.int 100000 t)
section
variable {P : Program} {w : World} {K : PySem.W.Frag} {mg : Str → Option Value} {base : Heap}
theorem f__law_start {f : Addr} {fd : FuncData} (T : Top K mg) (D : Df K mg (PySem.Str.ofString "_law_start") s__law_start [] f fd) : FnG P w K mg base 1 f fd [PySem.Str.ofString "script"] (spFL K h__law_start 1 2) := by
  refine okL_def (n := 2) D.fn S__law_start rfl fun cdv A outer s H E hr hgd => ?_
  have hu : (A.deeper (envOfC (PySem.Str.ofString "_law_start") (defScope s__law_start) s.heap.objs.size f cdv)).units + 200 < cLine := by have := hr.un; omega
  exact (ssl_cons (ss_set (i := 1) S__law_start.nd se_int)
    (ssl_cons (ss_for PassesOwn.never rfl (si_seq (se_slice (se_var 0) so_none (so_some se_int))) (sg_name (i := 2) S__law_start.nd) (ss_one (ss_set (i := 1) S__law_start.nd (se_op op_addA s_add (se_op op_mod s_mod (se_callTy call_int1 s_int (by rfl) T.b_int PyProof.Rows.boot_int (sa_cons (se_op op_addA s_add (se_op op_mulA s_mul (se_var 1) se_int) (se_var 2)) sa_nil)) se_int) se_int))))
    (ssl_ret (sl_lst (sa_cons (se_ofL (sl_lc (own := [(PySem.Str.ofString "cell", 2)]) rfl S__law_start.nd (si_seq (se_slice (se_var 0) so_none (so_some se_int))) (blkOk_by (own := [(PySem.Str.ofString "cell", 2)]) (N := N__law_start) (sc := defScope s__law_start) (by decide +kernel)) (fun _ _ _ _ _ => (sg_name (i := 2) S__law_start.nd)) (fun _ _ _ _ _ => sts_nil) (fun _ _ _ _ _ => (se_callB call_abs s_abs (by rfl) T.b_abs PyProof.Rows.boot_abs (sa_cons (se_callTy call_int1 s_int (by rfl) T.b_int PyProof.Rows.boot_int (sa_cons (se_var 2) sa_nil)) sa_nil))) (by decide))) (sa_cons se_int (sa_cons se_int (sa_cons se_int (sa_cons (se_var 1) (sa_cons se_int sa_nil))))))))))
theorem c__law_start (T : Top K mg) : CalL P w K mg base 1 (PySem.Str.ofString "_law_start") h__law_start 1 2 := by
  obtain ⟨f, fd, D⟩ := T.d__law_start
  exact calL_of D (f__law_start T D) rfl fun _ _ _ _ _ _ us hl => match us, hl with | [_], _ => rfl
theorem f__law_draw {f : Addr} {fd : FuncData} (T : Top K mg) (D : Df K mg (PySem.Str.ofString "_law_draw") s__law_draw [] f fd) : FnG P w K mg base 1 f fd [PySem.Str.ofString "state", PySem.Str.ofString "many"] (spF K g__law_draw 2 1) := by
  refine okD_def (n := 1) D.fn S__law_draw rfl fun cdv A outer s H E hr hgd => ?_
  have hu : (A.deeper (envOfC (PySem.Str.ofString "_law_draw") (defScope s__law_draw) s.heap.objs.size f cdv)).units + 200 < cLine := by have := hr.un; omega
  exact (ss_cons (ss_if (st_w (st_and (st_cmp (op_eqA hu) s_eq (se_ix (se_var 0) se_int (fun _ _ => rfl)) se_int (by rfl)) (st_and1 (st_cmp (op_ltA hu) s_lt (se_ix (se_var 0) se_int (fun _ _ => rfl)) (se_callB call_len s_len (by rfl) T.b_len boot_len (sa_cons (se_ix (se_var 0) se_int (fun _ _ => rfl)) sa_nil)) (by rfl))))) (ss_one (ss_asgH (se_tup (sa_cons (se_ix (se_ix (se_var 0) se_int (fun _ _ => rfl)) (se_ix (se_var 0) se_int (fun _ _ => rfl)) (fun _ _ => rfl)) (sa_cons se_int (sa_cons (se_op op_addA s_add (se_ix (se_var 0) se_int (fun _ _ => rfl)) se_int) sa_nil)))) (sh_tup rfl (shs_cons (sh_ix 0 se_int) (shs_cons (sh_ix 0 se_int) (shs_cons (sh_ix 0 se_int) shs_nil))) (hl := (len_gCons (len_gCons (len_gCons len_gNil))))))) ss_nil)
    (ss_cons (ss_if (st_cmp (op_gtA hu) s_gt (se_ix (se_var 0) se_int (fun _ _ => rfl)) se_int (by rfl)) (ss_cons (ss_set (i := 2) S__law_draw.nd (se_op op_mod s_mod (se_callTy call_int1 s_int (by rfl) T.b_int PyProof.Rows.boot_int (sa_cons (se_ix (se_var 0) se_int (fun _ _ => rfl)) sa_nil)) (se_var 1)))
    (ss_cons (ss_setIx 0 se_int (se_op op_fdivW s_div (se_ix (se_var 0) se_int (fun _ _ => rfl)) (se_var 1)))
    (ss_cons (ss_setIx 0 se_int (se_ifE (st_cmp (op_gtA hu) s_gt (se_ix (se_var 0) se_int (fun _ _ => rfl)) se_int (by rfl)) (se_op op_sub s_sub (se_ix (se_var 0) se_int (fun _ _ => rfl)) se_int) se_int))
    (ss_one (ss_ret (se_var 2)))))) ss_nil)
    (ss_cons (ss_setIx 0 se_int (se_op op_addA s_add (se_ix (se_var 0) se_int (fun _ _ => rfl)) se_int))
    (ss_cons (ss_setIx 0 se_int (se_op op_mod s_mod (se_callTy call_int1 s_int (by rfl) T.b_int PyProof.Rows.boot_int (sa_cons (se_op op_addA s_add (se_op op_addA s_add (se_op op_mulA s_mul (se_ix (se_var 0) se_int (fun _ _ => rfl)) se_int) (se_op op_mulA s_mul (se_op op_mulA s_mul (se_ix (se_var 0) se_int (fun _ _ => rfl)) (se_ix (se_var 0) se_int (fun _ _ => rfl))) se_int)) se_int) sa_nil)) se_int))
    (ss_one (ss_ret (se_op op_mod s_mod (se_callTy call_int1 s_int (by rfl) T.b_int PyProof.Rows.boot_int (sa_cons (se_op op_fdivW s_div (se_ix (se_var 0) se_int (fun _ _ => rfl)) se_int) sa_nil)) (se_var 1))))))))
theorem c__law_draw (T : Top K mg) : Cal P w K mg base 1 (PySem.Str.ofString "_law_draw") g__law_draw 2 1 [] := by
  obtain ⟨f, fd, D⟩ := T.d__law_draw
  exact cal_of D (f__law_draw T D) rfl fun _ _ _ _ _ _ us hl => match us, hl with | [_, _], _ => rfl
theorem f__law_weights {f : Addr} {fd : FuncData} (T : Top K mg) (D : Df K mg (PySem.Str.ofString "_law_weights") s__law_weights [] f fd) : FnG P w K mg base 2 f fd [PySem.Str.ofString "state"] (spF K g__law_weights 1 3) := by
  refine okD_def (n := 3) D.fn S__law_weights rfl fun cdv A outer s H E hr hgd => ?_
  have hu : (A.deeper (envOfC (PySem.Str.ofString "_law_weights") (defScope s__law_weights) s.heap.objs.size f cdv)).units + 200 < cLine := by have := hr.un; omega
  exact (ss_cons (ss_par (i := 1) (j := 2) rfl S__law_weights.nd (sp_e (se_op op_addA s_add se_int (se_c (c__law_draw T) hr (by decide) hgd (by rfl) (sa_cons (se_var 0) (sa_cons se_int sa_nil)))) (sp_l (sl_lst sa_nil) sp_nil)) (by decide))
    (ss_cons (ss_for PassesOwn.never rfl (si_range1 (by rfl) T.b_range (se_op op_addA s_add se_int (se_c (c__law_draw T) hr (by decide) hgd (by rfl) (sa_cons (se_var 0) (sa_cons se_int sa_nil))))) (sg_name (i := 3) S__law_weights.nd) (ss_one (ss_app 2 (se_callB (cr_maxA rfl hu) s_max (by rfl) T.b_max PyProof.Rows.boot_max (sa_cons (se_ofL (sl_lst (sa_cons se_int (sa_cons (se_op op_sub s_sub (se_op op_addA s_add (se_op op_mulA s_mul (se_var 1) (se_op op_addA s_add se_int (se_c (c__law_draw T) hr (by decide) hgd (by rfl) (sa_cons (se_var 0) (sa_cons se_int sa_nil))))) (se_c (c__law_draw T) hr (by decide) hgd (by rfl) (sa_cons (se_var 0) (sa_cons se_int sa_nil)))) se_int) sa_nil)))) sa_nil)))))
    (ss_one (ss_ret (se_callTy call_tuple_of s_tuple (by rfl) T.b_tuple PyProof.Rows.boot_tuple (sa_cons (se_var 2) sa_nil))))))
theorem c__law_weights (T : Top K mg) : Cal P w K mg base 2 (PySem.Str.ofString "_law_weights") g__law_weights 1 3 [] := by
  obtain ⟨f, fd, D⟩ := T.d__law_weights
  exact cal_of D (f__law_weights T D) rfl fun _ _ _ _ _ _ us hl => match us, hl with | [_], _ => rfl
theorem f_is_integer {f : Addr} {fd : FuncData} (T : Top K mg) (D : Df K mg (PySem.Str.ofString "is_integer") s_is_integer [] f fd) : FnG P w K mg base 1 f fd [PySem.Str.ofString "value"] (spF K g_is_integer 1 0) := by
  refine okD_def (n := 0) D.fn S_is_integer rfl fun cdv A outer s H E hr hgd => ?_
  have hu : (A.deeper (envOfC (PySem.Str.ofString "is_integer") (defScope s_is_integer) s.heap.objs.size f cdv)).units + 200 < cLine := by have := hr.un; omega
  exact (ss_one (ss_ret (se_andT (se_isi (se_var 0) (by rfl) T.b_isinstance PyProof.Rows.boot_isinstance (by rfl) T.b_int PyProof.Rows.boot_int) (se_one (se_notT (se_isi (se_var 0) (by rfl) T.b_isinstance PyProof.Rows.boot_isinstance (by rfl) T.b_bool PyProof.Rows.boot_bool))))))
theorem c_is_integer (T : Top K mg) : Cal P w K mg base 1 (PySem.Str.ofString "is_integer") g_is_integer 1 0 [] := by
  obtain ⟨f, fd, D⟩ := T.d_is_integer
  exact cal_of D (f_is_integer T D) rfl fun _ _ _ _ _ _ us hl => match us, hl with | [_], _ => rfl
theorem f_check_weights {f : Addr} {fd : FuncData} (T : Top K mg) (D : Df K mg (PySem.Str.ofString "check_weights") s_check_weights [] f fd) : FnG P w K mg base 2 f fd [PySem.Str.ofString "weights"] (spF K g_check_weights 1 1) := by
  obtain ⟨t_MAX_COINS, m_MAX_COINS⟩ := T.k_MAX_COINS
  obtain ⟨t_MAX_UNIT, m_MAX_UNIT⟩ := T.k_MAX_UNIT
  refine okD_def (n := 1) D.fn S_check_weights rfl fun cdv A outer s H E hr hgd => ?_
  have hu : (A.deeper (envOfC (PySem.Str.ofString "check_weights") (defScope s_check_weights) s.heap.objs.size f cdv)).units + 200 < cLine := by have := hr.un; omega
  exact (ss_cons (ss_if (st_w (st_or (st_not (st_tru (se_isi (se_var 0) (by rfl) T.b_isinstance PyProof.Rows.boot_isinstance (by rfl) T.b_tuple PyProof.Rows.boot_tuple))) (st_or1 (st_not (st_chain (op_leA hu) (op_leA hu) s_le s_le se_int (se_callB call_len s_len (by rfl) T.b_len boot_len (sa_cons (se_var 0) sa_nil)) (se_globI (by rfl) m_MAX_COINS)))))) (ss_one ss_never) ss_nil)
    (ss_one (ss_if (st_not (st_tru (se_callB (cr_all rfl) s_all (by rfl) T.b_all PyProof.Rows.boot_all (sa_cons (se_ofL (sl_lc (own := [(PySem.Str.ofString "own", 1)]) rfl S_check_weights.nd (si_seq (se_var 0)) (blkOk_by (own := [(PySem.Str.ofString "own", 1)]) (N := N_check_weights) (sc := defScope s_check_weights) (by decide +kernel)) (fun _ _ _ _ _ => (sg_name (i := 1) S_check_weights.nd)) (fun _ _ _ _ _ => sts_nil) (fun _ _ _ _ _ => (se_andT (se_c (c_is_integer T) hr (by decide) hgd (by rfl) (sa_cons (se_var 1) sa_nil)) (se_one (se_chain (op_leA hu) (op_leA hu) s_le s_le se_int (se_var 1) (se_globI (by rfl) m_MAX_UNIT))))) (by decide))) sa_nil)))) (ss_one ss_never) ss_nil)))
theorem c_check_weights (T : Top K mg) : Cal P w K mg base 2 (PySem.Str.ofString "check_weights") g_check_weights 1 1 [] := by
  obtain ⟨f, fd, D⟩ := T.d_check_weights
  exact cal_of D (f_check_weights T D) rfl fun _ _ _ _ _ _ us hl => match us, hl with | [_], _ => rfl
theorem f_check_slack {f : Addr} {fd : FuncData} (T : Top K mg) (D : Df K mg (PySem.Str.ofString "check_slack") s_check_slack [] f fd) : FnG P w K mg base 2 f fd [PySem.Str.ofString "slack"] (spF K g_check_slack 1 0) := by
  obtain ⟨t_MAX_UNIT, m_MAX_UNIT⟩ := T.k_MAX_UNIT
  refine okD_def (n := 0) D.fn S_check_slack rfl fun cdv A outer s H E hr hgd => ?_
  have hu : (A.deeper (envOfC (PySem.Str.ofString "check_slack") (defScope s_check_slack) s.heap.objs.size f cdv)).units + 200 < cLine := by have := hr.un; omega
  exact (ss_one (ss_if (st_w (st_or (st_not (st_tru (se_c (c_is_integer T) hr (by decide) hgd (by rfl) (sa_cons (se_var 0) sa_nil)))) (st_or1 (st_not (st_chain (op_leA hu) (op_leA hu) s_le s_le se_int (se_var 0) (se_globI (by rfl) m_MAX_UNIT)))))) (ss_one ss_never) ss_nil))
theorem c_check_slack (T : Top K mg) : Cal P w K mg base 2 (PySem.Str.ofString "check_slack") g_check_slack 1 0 [] := by
  obtain ⟨f, fd, D⟩ := T.d_check_slack
  exact cal_of D (f_check_slack T D) rfl fun _ _ _ _ _ _ us hl => match us, hl with | [_], _ => rfl
theorem f_check_unit {f : Addr} {fd : FuncData} (T : Top K mg) (D : Df K mg (PySem.Str.ofString "check_unit") s_check_unit [V.str (PySem.Str.ofString "unit")] f fd) : FnG P w K mg base 2 f fd [PySem.Str.ofString "unit", PySem.Str.ofString "reason"] (spF K g_check_unit 2 0) := by
  obtain ⟨t_MAX_UNIT, m_MAX_UNIT⟩ := T.k_MAX_UNIT
  refine okD_def (n := 0) D.fn S_check_unit rfl fun cdv A outer s H E hr hgd => ?_
  have hu : (A.deeper (envOfC (PySem.Str.ofString "check_unit") (defScope s_check_unit) s.heap.objs.size f cdv)).units + 200 < cLine := by have := hr.un; omega
  exact (ss_one (ss_if (st_w (st_or (st_not (st_tru (se_c (c_is_integer T) hr (by decide) hgd (by rfl) (sa_cons (se_var 0) sa_nil)))) (st_or1 (st_not (st_chain (op_leA hu) (op_leA hu) s_le s_le se_int (se_var 0) (se_globI (by rfl) m_MAX_UNIT)))))) (ss_one ss_never) ss_nil))
theorem c_check_unit (T : Top K mg) : Cal P w K mg base 2 (PySem.Str.ofString "check_unit") g_check_unit 2 0 [] := by
  obtain ⟨f, fd, D⟩ := T.d_check_unit
  exact calD_of (c := 2) (j := 1) D (f_check_unit T D) rfl (by simp) rfl (fun _ => .nil) fun _ _ _ _ _ _ _ us its hu hi => match us, hu, its, hi with | [_, _], _, [_], _ => ⟨_, rfl, rfl⟩
theorem c_check_unit_d1 (T : Top K mg) : Cal P w K mg base 2 (PySem.Str.ofString "check_unit") g_check_unit 2 0 [.str (PySem.Str.ofString "unit")] := by
  obtain ⟨f, fd, D⟩ := T.d_check_unit
  exact calD_of (c := 1) (j := 0) D (f_check_unit T D) rfl (by simp) rfl (fun _ => (.cons (.str _) .nil)) fun _ _ _ _ _ _ _ us its hu hi => match us, hu, its, hi with | [_], _, [_], _ => ⟨_, rfl, rfl⟩
theorem f_check_range {f : Addr} {fd : FuncData} (T : Top K mg) (D : Df K mg (PySem.Str.ofString "check_range") s_check_range [] f fd) : FnG P w K mg base 3 f fd [PySem.Str.ofString "weights", PySem.Str.ofString "slack", PySem.Str.ofString "low", PySem.Str.ofString "high"] (spF K g_check_range 4 0) := by
  obtain ⟨t_MAX_LOOKED, m_MAX_LOOKED⟩ := T.k_MAX_LOOKED
  refine okD_def (n := 0) D.fn S_check_range rfl fun cdv A outer s H E hr hgd => ?_
  have hu : (A.deeper (envOfC (PySem.Str.ofString "check_range") (defScope s_check_range) s.heap.objs.size f cdv)).units + 200 < cLine := by have := hr.un; omega
  exact (ss_cons (ss_expr (se_c (c_check_weights T) hr (by decide) hgd (by rfl) (sa_cons (se_var 0) sa_nil)))
    (ss_cons (ss_expr (se_c (c_check_slack T) hr (by decide) hgd (by rfl) (sa_cons (se_var 1) sa_nil)))
    (ss_cons (ss_expr (se_c (c_check_unit T) hr (by decide) hgd (by rfl) (sa_cons (se_var 2) (sa_cons se_str sa_nil))))
    (ss_cons (ss_expr (se_c (c_check_unit T) hr (by decide) hgd (by rfl) (sa_cons (se_var 3) (sa_cons se_str sa_nil))))
    (ss_cons (ss_if (st_cmp (op_gtA hu) s_gt (se_var 2) (se_var 3) (by rfl)) (ss_one ss_never) ss_nil)
    (ss_one (ss_if (st_cmp (op_gtA hu) s_gt (se_op op_mulA s_mul (se_op op_addA s_add (se_op op_sub s_sub (se_var 3) (se_var 2)) se_int) (se_callB call_len s_len (by rfl) T.b_len boot_len (sa_cons (se_var 0) sa_nil))) (se_globI (by rfl) m_MAX_LOOKED) (by rfl)) (ss_one ss_never) ss_nil)))))))
theorem c_check_range (T : Top K mg) : Cal P w K mg base 3 (PySem.Str.ofString "check_range") g_check_range 4 0 [] := by
  obtain ⟨f, fd, D⟩ := T.d_check_range
  exact cal_of D (f_check_range T D) rfl fun _ _ _ _ _ _ us hl => match us, hl with | [_, _, _, _], _ => rfl
theorem f_nearest {f : Addr} {fd : FuncData} (T : Top K mg) (D : Df K mg (PySem.Str.ofString "nearest") s_nearest [] f fd) : FnG P w K mg base 1 f fd [PySem.Str.ofString "weight", PySem.Str.ofString "unit"] (spF K g_nearest 2 1) := by
  refine okD_def (n := 1) D.fn S_nearest rfl fun cdv A outer s H E hr hgd => ?_
  have hu : (A.deeper (envOfC (PySem.Str.ofString "nearest") (defScope s_nearest) s.heap.objs.size f cdv)).units + 200 < cLine := by have := hr.un; omega
  exact (ss_cons (ss_set (i := 2) S_nearest.nd (se_callB (cr_maxA rfl hu) s_max (by rfl) T.b_max PyProof.Rows.boot_max (sa_cons se_int (sa_cons (se_op op_fdivW s_div (se_var 0) (se_var 1)) sa_nil))))
    (ss_one (ss_ret (se_ifE (st_cmp (op_leA hu) s_le (se_callB call_abs s_abs (by rfl) T.b_abs PyProof.Rows.boot_abs (sa_cons (se_op op_sub s_sub (se_var 0) (se_op op_mulA s_mul (se_var 2) (se_var 1))) sa_nil)) (se_callB call_abs s_abs (by rfl) T.b_abs PyProof.Rows.boot_abs (sa_cons (se_op op_sub s_sub (se_var 0) (se_op op_mulA s_mul (se_op op_addA s_add (se_var 2) se_int) (se_var 1))) sa_nil)) (by rfl)) (se_var 2) (se_op op_addA s_add (se_var 2) se_int)))))
theorem c_nearest (T : Top K mg) : Cal P w K mg base 1 (PySem.Str.ofString "nearest") g_nearest 2 1 [] := by
  obtain ⟨f, fd, D⟩ := T.d_nearest
  exact cal_of D (f_nearest T D) rfl fun _ _ _ _ _ _ us hl => match us, hl with | [_, _], _ => rfl
theorem f_is_good {f : Addr} {fd : FuncData} (T : Top K mg) (D : Df K mg (PySem.Str.ofString "is_good") s_is_good [] f fd) : FnG P w K mg base 2 f fd [PySem.Str.ofString "weights", PySem.Str.ofString "slack", PySem.Str.ofString "unit"] (spF K g_is_good 3 1) := by
  refine okD_def (n := 1) D.fn S_is_good rfl fun cdv A outer s H E hr hgd => ?_
  have hu : (A.deeper (envOfC (PySem.Str.ofString "is_good") (defScope s_is_good) s.heap.objs.size f cdv)).units + 200 < cLine := by have := hr.un; omega
  exact (ss_one (ss_ret (se_notT (se_ofL (sl_lc (own := [(PySem.Str.ofString "own", 3)]) rfl S_is_good.nd (si_seq (se_var 0)) (blkOk_by (own := [(PySem.Str.ofString "own", 3)]) (N := N_is_good) (sc := defScope s_is_good) (by decide +kernel)) (fun _ _ _ _ _ => (sg_name (i := 3) S_is_good.nd)) (fun _ _ _ _ _ => (sts_one (st_cmp (op_gtA hu) s_gt (se_callB call_abs s_abs (by rfl) T.b_abs PyProof.Rows.boot_abs (sa_cons (se_op op_sub s_sub (se_var 3) (se_op op_mulA s_mul (se_c (c_nearest T) hr (by decide) hgd (by rfl) (sa_cons (se_var 3) (sa_cons (se_var 2) sa_nil))) (se_var 2))) sa_nil)) (se_var 1) (by rfl)))) (fun _ _ _ _ _ => (se_var 3)) (by decide))))))
theorem c_is_good (T : Top K mg) : Cal P w K mg base 2 (PySem.Str.ofString "is_good") g_is_good 3 1 [] := by
  obtain ⟨f, fd, D⟩ := T.d_is_good
  exact cal_of D (f_is_good T D) rfl fun _ _ _ _ _ _ us hl => match us, hl with | [_, _, _], _ => rfl
theorem f_good_units {f : Addr} {fd : FuncData} (T : Top K mg) (D : Df K mg (PySem.Str.ofString "good_units") s_good_units [] f fd) : FnG P w K mg base 4 f fd [PySem.Str.ofString "weights", PySem.Str.ofString "slack", PySem.Str.ofString "low", PySem.Str.ofString "high"] (spF K g_good_units 4 1) := by
  refine okD_def (n := 1) D.fn S_good_units rfl fun cdv A outer s H E hr hgd => ?_
  have hu : (A.deeper (envOfC (PySem.Str.ofString "good_units") (defScope s_good_units) s.heap.objs.size f cdv)).units + 200 < cLine := by have := hr.un; omega
  exact (ss_cons (ss_expr (se_c (c_check_range T) hr (by decide) hgd (by rfl) (sa_cons (se_var 0) (sa_cons (se_var 1) (sa_cons (se_var 2) (sa_cons (se_var 3) sa_nil))))))
    (ss_one (ss_ret (se_callTy call_tuple_of s_tuple (by rfl) T.b_tuple PyProof.Rows.boot_tuple (sa_cons (se_ofL (sl_lc (own := [(PySem.Str.ofString "unit", 4)]) rfl S_good_units.nd (si_range2 (by rfl) T.b_range (se_var 2) (se_op op_addA s_add (se_var 3) se_int)) (blkOk_by (own := [(PySem.Str.ofString "unit", 4)]) (N := N_good_units) (sc := defScope s_good_units) (by decide +kernel)) (fun _ _ _ _ _ => (sg_name (i := 4) S_good_units.nd)) (fun _ _ _ _ _ => (sts_one (st_tru (se_c (c_is_good T) hr (by decide) hgd (by rfl) (sa_cons (se_var 0) (sa_cons (se_var 1) (sa_cons (se_var 4) sa_nil))))))) (fun _ _ _ _ _ => (se_var 4)) (by decide))) sa_nil)))))
theorem c_good_units (T : Top K mg) : Cal P w K mg base 4 (PySem.Str.ofString "good_units") g_good_units 4 1 [] := by
  obtain ⟨f, fd, D⟩ := T.d_good_units
  exact cal_of D (f_good_units T D) rfl fun _ _ _ _ _ _ us hl => match us, hl with | [_, _, _, _], _ => rfl
theorem f__law_divisors_hold {f : Addr} {fd : FuncData} (T : Top K mg) (D : Df K mg (PySem.Str.ofString "_law_divisors_hold") s__law_divisors_hold [] f fd) : FnG P w K mg base 5 f fd [PySem.Str.ofString "weights", PySem.Str.ofString "slack"] (spF K g__law_divisors_hold 2 3) := by
  refine okD_def (n := 3) D.fn S__law_divisors_hold rfl fun cdv A outer s H E hr hgd => ?_
  have hu : (A.deeper (envOfC (PySem.Str.ofString "_law_divisors_hold") (defScope s__law_divisors_hold) s.heap.objs.size f cdv)).units + 200 < cLine := by have := hr.un; omega
  exact (ss_cons (ss_set (i := 2) S__law_divisors_hold.nd (se_c (c_good_units T) hr (by decide) hgd (by rfl) (sa_cons (se_var 0) (sa_cons (se_var 1) (sa_cons se_int (sa_cons se_int sa_nil))))))
    (ss_cons (ss_for PassesOwn.never rfl (si_seq (se_var 2)) (sg_name (i := 3) S__law_divisors_hold.nd) (ss_one (ss_if (st_tru (se_ofL (sl_lc (own := [(PySem.Str.ofString "own", 4)]) rfl S__law_divisors_hold.nd (si_range2 (by rfl) T.b_range se_int (se_var 3)) (blkOk_by (own := [(PySem.Str.ofString "own", 4)]) (N := N__law_divisors_hold) (sc := defScope s__law_divisors_hold) (by decide +kernel)) (fun _ _ _ _ _ => (sg_name (i := 4) S__law_divisors_hold.nd)) (fun _ _ _ _ _ => (sts_one (st_w (st_and (st_cmp (op_eqA hu) s_eq (se_op op_mulA s_mul (se_op op_fdivW s_div (se_var 3) (se_var 4)) (se_var 4)) (se_var 3) (by rfl)) (st_and1 (st_cmp (op_notInA hu) s_notIn (se_var 4) (se_var 2) (by rfl))))))) (fun _ _ _ _ _ => (se_var 4)) (by decide)))) (ss_one (ss_ret se_bl)) ss_nil)))
    (ss_one (ss_ret (se_cmp (op_eqA hu) s_eq (se_ofL (sl_lc (own := [(PySem.Str.ofString "own", 4)]) rfl S__law_divisors_hold.nd (si_range2 (by rfl) T.b_range se_int (se_op op_addA s_add (se_callB (cr_minA rfl hu) s_min (by rfl) T.b_min PyProof.Rows.boot_min (sa_cons (se_op op_addA s_add (se_ofL (sl_lst (sa_cons (se_op op_addA s_add (se_op op_mulA s_mul se_int (se_var 1)) se_int) sa_nil))) (se_ofL (sl_callTy call_list_of s_listOf (by rfl) T.b_list PyProof.Rows.boot_list (sa_cons (se_var 0) sa_nil)))) sa_nil)) se_int)) (blkOk_by (own := [(PySem.Str.ofString "own", 4)]) (N := N__law_divisors_hold) (sc := defScope s__law_divisors_hold) (by decide +kernel)) (fun _ _ _ _ _ => (sg_name (i := 4) S__law_divisors_hold.nd)) (fun _ _ _ _ _ => (sts_one (st_w (st_and (st_cmp (op_ltA hu) s_lt (se_var 4) se_int (by rfl)) (st_and1 (st_cmp (op_notInA hu) s_notIn (se_var 4) (se_var 2) (by rfl))))))) (fun _ _ _ _ _ => (se_var 4)) (by decide))) (se_ofL (sl_lst sa_nil)) (by rfl))))))
theorem c__law_divisors_hold (T : Top K mg) : Cal P w K mg base 5 (PySem.Str.ofString "_law_divisors_hold") g__law_divisors_hold 2 3 [] := by
  obtain ⟨f, fd, D⟩ := T.d__law_divisors_hold
  exact cal_of D (f__law_divisors_hold T D) rfl fun _ _ _ _ _ _ us hl => match us, hl with | [_, _], _ => rfl
theorem f_judge_unit {f : Addr} {fd : FuncData} (T : Top K mg) (D : Df K mg (PySem.Str.ofString "judge_unit") s_judge_unit [] f fd) : FnG P w K mg base 3 f fd [PySem.Str.ofString "weights", PySem.Str.ofString "slack", PySem.Str.ofString "unit"] (spF K g_judge_unit 3 3) := by
  refine okD_def (n := 3) D.fn S_judge_unit rfl fun cdv A outer s H E hr hgd => ?_
  have hu : (A.deeper (envOfC (PySem.Str.ofString "judge_unit") (defScope s_judge_unit) s.heap.objs.size f cdv)).units + 200 < cLine := by have := hr.un; omega
  exact (ss_cons (ss_expr (se_c (c_check_weights T) hr (by decide) hgd (by rfl) (sa_cons (se_var 0) sa_nil)))
    (ss_cons (ss_expr (se_c (c_check_slack T) hr (by decide) hgd (by rfl) (sa_cons (se_var 1) sa_nil)))
    (ss_cons (ss_expr (se_c (c_check_unit_d1 T) hr (by decide) hgd (by rfl) (sa_cons (se_var 2) sa_nil)))
    (ss_cons (ss_setLc (i := 4) (own := [(PySem.Str.ofString "own", 3)]) rfl S_judge_unit.nd (si_seq (se_var 0)) (blkOk_by (own := [(PySem.Str.ofString "own", 3)]) (N := N_judge_unit) (sc := defScope s_judge_unit) (by decide +kernel)) (fun _ _ _ _ _ => (sg_name (i := 3) S_judge_unit.nd)) (fun _ _ _ _ _ => sts_nil) (fun _ _ _ _ _ => (se_c (c_nearest T) hr (by decide) hgd (by rfl) (sa_cons (se_var 3) (sa_cons (se_var 2) sa_nil)))) (by decide) (sw_true rfl rfl rfl (by decide +kernel)))
    (ss_cons (ss_for PassesOwn.never rfl (si_enum (by rfl) T.b_enumerate (se_var 0)) (sg_tup rfl (sgs_cons (sg_name (i := 5) S_judge_unit.nd) (sgs_cons (sg_name (i := 3) S_judge_unit.nd) sgs_nil)) (hl := (len_gCons (len_gCons len_gNil)))) (ss_one (ss_if (st_cmp (op_gtA hu) s_gt (se_callB call_abs s_abs (by rfl) T.b_abs PyProof.Rows.boot_abs (sa_cons (se_op op_sub s_sub (se_var 3) (se_op op_mulA s_mul (se_ix (se_var 4) (se_var 5) (fun _ _ => rfl)) (se_var 2))) sa_nil)) (se_var 1) (by rfl)) (ss_one (ss_ret (se_tup (sa_cons se_str (sa_cons (se_var 5) (sa_cons (se_op op_sub s_sub (se_var 3) (se_op op_mulA s_mul (se_ix (se_var 4) (se_var 5) (fun _ _ => rfl)) (se_var 2))) sa_nil)))))) ss_nil)))
    (ss_one (ss_ret (se_tup (sa_cons se_str (sa_cons (se_callTy call_tuple_of s_tuple (by rfl) T.b_tuple PyProof.Rows.boot_tuple (sa_cons (se_var 4) sa_nil)) sa_nil))))))))))
theorem c_judge_unit (T : Top K mg) : Cal P w K mg base 3 (PySem.Str.ofString "judge_unit") g_judge_unit 3 3 [] := by
  obtain ⟨f, fd, D⟩ := T.d_judge_unit
  exact cal_of D (f_judge_unit T D) rfl fun _ _ _ _ _ _ us hl => match us, hl with | [_, _, _], _ => rfl
theorem f_off_weights {f : Addr} {fd : FuncData} (T : Top K mg) (D : Df K mg (PySem.Str.ofString "off_weights") s_off_weights [] f fd) : FnG P w K mg base 3 f fd [PySem.Str.ofString "weights", PySem.Str.ofString "slack", PySem.Str.ofString "unit"] (spF K g_off_weights 3 2) := by
  refine okD_def (n := 2) D.fn S_off_weights rfl fun cdv A outer s H E hr hgd => ?_
  have hu : (A.deeper (envOfC (PySem.Str.ofString "off_weights") (defScope s_off_weights) s.heap.objs.size f cdv)).units + 200 < cLine := by have := hr.un; omega
  exact (ss_cons (ss_expr (se_c (c_check_weights T) hr (by decide) hgd (by rfl) (sa_cons (se_var 0) sa_nil)))
    (ss_cons (ss_expr (se_c (c_check_slack T) hr (by decide) hgd (by rfl) (sa_cons (se_var 1) sa_nil)))
    (ss_cons (ss_expr (se_c (c_check_unit_d1 T) hr (by decide) hgd (by rfl) (sa_cons (se_var 2) sa_nil)))
    (ss_one (ss_ret (se_callTy call_tuple_of s_tuple (by rfl) T.b_tuple PyProof.Rows.boot_tuple (sa_cons (se_ofL (sl_lc (own := [(PySem.Str.ofString "at", 3), (PySem.Str.ofString "own", 4)]) rfl S_off_weights.nd (si_enum (by rfl) T.b_enumerate (se_var 0)) (blkOk_by (own := [(PySem.Str.ofString "at", 3), (PySem.Str.ofString "own", 4)]) (N := N_off_weights) (sc := defScope s_off_weights) (by decide +kernel)) (fun _ _ _ _ _ => (sg_tup rfl (sgs_cons (sg_name (i := 3) S_off_weights.nd) (sgs_cons (sg_name (i := 4) S_off_weights.nd) sgs_nil)) (hl := (len_gCons (len_gCons len_gNil))))) (fun _ _ _ _ _ => (sts_one (st_cmp (op_gtA hu) s_gt (se_callB call_abs s_abs (by rfl) T.b_abs PyProof.Rows.boot_abs (sa_cons (se_op op_sub s_sub (se_var 4) (se_op op_mulA s_mul (se_c (c_nearest T) hr (by decide) hgd (by rfl) (sa_cons (se_var 4) (sa_cons (se_var 2) sa_nil))) (se_var 2))) sa_nil)) (se_var 1) (by rfl)))) (fun _ _ _ _ _ => (se_var 3)) (by decide))) sa_nil)))))))
theorem c_off_weights (T : Top K mg) : Cal P w K mg base 3 (PySem.Str.ofString "off_weights") g_off_weights 3 2 [] := by
  obtain ⟨f, fd, D⟩ := T.d_off_weights
  exact cal_of D (f_off_weights T D) rfl fun _ _ _ _ _ _ us hl => match us, hl with | [_, _, _], _ => rfl
theorem f_accept_times {f : Addr} {fd : FuncData} (T : Top K mg) (D : Df K mg (PySem.Str.ofString "accept_times") s_accept_times [] f fd) : FnG P w K mg base 3 f fd [PySem.Str.ofString "weights", PySem.Str.ofString "slack", PySem.Str.ofString "unit", PySem.Str.ofString "times"] (spF K g_accept_times 4 2) := by
  refine okD_def (n := 2) D.fn S_accept_times rfl fun cdv A outer s H E hr hgd => ?_
  have hu : (A.deeper (envOfC (PySem.Str.ofString "accept_times") (defScope s_accept_times) s.heap.objs.size f cdv)).units + 200 < cLine := by have := hr.un; omega
  exact (ss_cons (ss_expr (se_c (c_check_weights T) hr (by decide) hgd (by rfl) (sa_cons (se_var 0) sa_nil)))
    (ss_cons (ss_expr (se_c (c_check_slack T) hr (by decide) hgd (by rfl) (sa_cons (se_var 1) sa_nil)))
    (ss_cons (ss_expr (se_c (c_check_unit_d1 T) hr (by decide) hgd (by rfl) (sa_cons (se_var 2) sa_nil)))
    (ss_cons (ss_if (st_w (st_or (st_not (st_tru (se_isi (se_var 3) (by rfl) T.b_isinstance PyProof.Rows.boot_isinstance (by rfl) T.b_tuple PyProof.Rows.boot_tuple))) (st_or1 (st_cmp (op_neA hu) s_ne (se_callB call_len s_len (by rfl) T.b_len boot_len (sa_cons (se_var 3) sa_nil)) (se_callB call_len s_len (by rfl) T.b_len boot_len (sa_cons (se_var 0) sa_nil)) (by rfl))))) (ss_one ss_never) ss_nil)
    (ss_cons (ss_if (st_not (st_tru (se_callB (cr_all rfl) s_all (by rfl) T.b_all PyProof.Rows.boot_all (sa_cons (se_ofL (sl_lc (own := [(PySem.Str.ofString "own", 4)]) rfl S_accept_times.nd (si_seq (se_var 3)) (blkOk_by (own := [(PySem.Str.ofString "own", 4)]) (N := N_accept_times) (sc := defScope s_accept_times) (by decide +kernel)) (fun _ _ _ _ _ => (sg_name (i := 4) S_accept_times.nd)) (fun _ _ _ _ _ => sts_nil) (fun _ _ _ _ _ => (se_andT (se_c (c_is_integer T) hr (by decide) hgd (by rfl) (sa_cons (se_var 4) sa_nil)) (se_one (se_cmp (op_geA hu) s_ge (se_var 4) se_int (by rfl))))) (by decide))) sa_nil)))) (ss_one ss_never) ss_nil)
    (ss_one (ss_if (st_tru (se_ofL (sl_lc (own := [(PySem.Str.ofString "own", 4), (PySem.Str.ofString "many", 5)]) rfl S_accept_times.nd (si_zip (by rfl) T.b_zip (se_var 0) (se_var 3)) (blkOk_by (own := [(PySem.Str.ofString "own", 4), (PySem.Str.ofString "many", 5)]) (N := N_accept_times) (sc := defScope s_accept_times) (by decide +kernel)) (fun _ _ _ _ _ => (sg_tup rfl (sgs_cons (sg_name (i := 4) S_accept_times.nd) (sgs_cons (sg_name (i := 5) S_accept_times.nd) sgs_nil)) (hl := (len_gCons (len_gCons len_gNil))))) (fun _ _ _ _ _ => (sts_one (st_cmp (op_gtA hu) s_gt (se_callB call_abs s_abs (by rfl) T.b_abs PyProof.Rows.boot_abs (sa_cons (se_op op_sub s_sub (se_var 4) (se_op op_mulA s_mul (se_var 5) (se_var 2))) sa_nil)) (se_var 1) (by rfl)))) (fun _ _ _ _ _ => se_int) (by decide)))) (ss_one ss_never) ss_nil)))))))
theorem c_accept_times (T : Top K mg) : Cal P w K mg base 3 (PySem.Str.ofString "accept_times") g_accept_times 4 2 [] := by
  obtain ⟨f, fd, D⟩ := T.d_accept_times
  exact cal_of D (f_accept_times T D) rfl fun _ _ _ _ _ _ us hl => match us, hl with | [_, _, _, _], _ => rfl
theorem f_closest_unit {f : Addr} {fd : FuncData} (T : Top K mg) (D : Df K mg (PySem.Str.ofString "closest_unit") s_closest_unit [] f fd) : FnG P w K mg base 4 f fd [PySem.Str.ofString "weights", PySem.Str.ofString "low", PySem.Str.ofString "high"] (spF K g_closest_unit 3 4) := by
  refine okD_def (n := 4) D.fn S_closest_unit rfl fun cdv A outer s H E hr hgd => ?_
  have hu : (A.deeper (envOfC (PySem.Str.ofString "closest_unit") (defScope s_closest_unit) s.heap.objs.size f cdv)).units + 200 < cLine := by have := hr.un; omega
  exact (ss_cons (ss_expr (se_c (c_check_range T) hr (by decide) hgd (by rfl) (sa_cons (se_var 0) (sa_cons se_int (sa_cons (se_var 1) (sa_cons (se_var 2) sa_nil))))))
    (ss_cons (ss_setLc (i := 5) (own := [(PySem.Str.ofString "unit", 3)]) rfl S_closest_unit.nd (si_range2 (by rfl) T.b_range (se_var 1) (se_op op_addA s_add (se_var 2) se_int)) (blkOk_by (own := [(PySem.Str.ofString "unit", 3)]) (N := N_closest_unit) (sc := defScope s_closest_unit) (by decide +kernel)) (fun _ _ _ _ _ => (sg_name (i := 3) S_closest_unit.nd)) (fun _ _ _ _ _ => sts_nil) (fun _ _ _ _ _ => (se_tup (sa_cons (se_callB (cr_maxA rfl hu) s_max (by rfl) T.b_max PyProof.Rows.boot_max (sa_cons (se_ofL (sl_lc (own := [(PySem.Str.ofString "own", 4)]) rfl S_closest_unit.nd (si_seq (se_var 0)) (blkOk_by (own := [(PySem.Str.ofString "own", 4)]) (N := N_closest_unit) (sc := relS _ (defScope s_closest_unit)) (by decide +kernel)) (fun _ _ _ _ _ => (sg_name (i := 4) S_closest_unit.nd)) (fun _ _ _ _ _ => sts_nil) (fun _ _ _ _ _ => (se_callB call_abs s_abs (by rfl) T.b_abs PyProof.Rows.boot_abs (sa_cons (se_op op_sub s_sub (se_var 4) (se_op op_mulA s_mul (se_c (c_nearest T) hr (by decide) hgd (by rfl) (sa_cons (se_var 4) (sa_cons (se_var 3) sa_nil))) (se_var 3))) sa_nil))) (by decide))) sa_nil)) (sa_cons (se_un un_neg s_neg (se_var 3)) sa_nil)))) (by decide) (sw_true rfl rfl rfl (by decide +kernel)))
    (ss_cons (ss_asg (se_callB (cr_minA rfl hu) s_min (by rfl) T.b_min PyProof.Rows.boot_min (sa_cons (se_var 5) sa_nil)) (sg_tup rfl (sgs_cons (sg_name (i := 6) S_closest_unit.nd) (sgs_cons (sg_name (i := 3) S_closest_unit.nd) sgs_nil)) (hl := (len_gCons (len_gCons len_gNil)))))
    (ss_one (ss_ret (se_tup (sa_cons (se_var 6) (sa_cons (se_un un_neg s_neg (se_var 3)) sa_nil))))))))
theorem c_closest_unit (T : Top K mg) : Cal P w K mg base 4 (PySem.Str.ofString "closest_unit") g_closest_unit 3 4 [] := by
  obtain ⟨f, fd, D⟩ := T.d_closest_unit
  exact cal_of D (f_closest_unit T D) rfl fun _ _ _ _ _ _ us hl => match us, hl with | [_, _, _], _ => rfl
theorem f__law_stretched_holds {f : Addr} {fd : FuncData} (T : Top K mg) (D : Df K mg (PySem.Str.ofString "_law_stretched_holds") s__law_stretched_holds [] f fd) : FnG P w K mg base 5 f fd [PySem.Str.ofString "state", PySem.Str.ofString "weights", PySem.Str.ofString "slack"] (spF K g__law_stretched_holds 3 11) := by
  refine okD_def (n := 11) D.fn S__law_stretched_holds rfl fun cdv A outer s H E hr hgd => ?_
  have hu : (A.deeper (envOfC (PySem.Str.ofString "_law_stretched_holds") (defScope s__law_stretched_holds) s.heap.objs.size f cdv)).units + 200 < cLine := by have := hr.un; omega
  exact (ss_cons (ss_set (i := 3) S__law_stretched_holds.nd (se_op op_addA s_add se_int (se_c (c__law_draw T) hr (by decide) hgd (by rfl) (sa_cons (se_var 0) (sa_cons se_int sa_nil)))))
    (ss_cons (ss_set (i := 5) S__law_stretched_holds.nd (se_callTy call_tuple_of s_tuple (by rfl) T.b_tuple PyProof.Rows.boot_tuple (sa_cons (se_ofL (sl_lc (own := [(PySem.Str.ofString "own", 4)]) rfl S__law_stretched_holds.nd (si_seq (se_var 1)) (blkOk_by (own := [(PySem.Str.ofString "own", 4)]) (N := N__law_stretched_holds) (sc := defScope s__law_stretched_holds) (by decide +kernel)) (fun _ _ _ _ _ => (sg_name (i := 4) S__law_stretched_holds.nd)) (fun _ _ _ _ _ => sts_nil) (fun _ _ _ _ _ => (se_op op_mulA s_mul (se_var 3) (se_var 4))) (by decide))) sa_nil)))
    (ss_cons (ss_par (i := 6) (j := 7) rfl S__law_stretched_holds.nd (sp_e (se_c (c_good_units T) hr (by decide) hgd (by rfl) (sa_cons (se_var 1) (sa_cons (se_var 2) (sa_cons se_int (sa_cons se_int sa_nil))))) (sp_e (se_c (c_good_units T) hr (by decide) hgd (by rfl) (sa_cons (se_var 5) (sa_cons (se_op op_mulA s_mul (se_var 3) (se_var 2)) (sa_cons se_int (sa_cons (se_op op_mulA s_mul se_int (se_var 3)) sa_nil))))) sp_nil)) (by decide))
    (ss_cons (ss_if (st_w (st_or (st_cmp (op_neA hu) s_ne (se_ofL (sl_lc (own := [(PySem.Str.ofString "own", 4)]) rfl S__law_stretched_holds.nd (si_seq (se_var 7)) (blkOk_by (own := [(PySem.Str.ofString "own", 4)]) (N := N__law_stretched_holds) (sc := defScope s__law_stretched_holds) (by decide +kernel)) (fun _ _ _ _ _ => (sg_name (i := 4) S__law_stretched_holds.nd)) (fun _ _ _ _ _ => (sts_one (st_cmp (op_eqA hu) s_eq (se_op op_mulA s_mul (se_op op_fdivW s_div (se_var 4) (se_var 3)) (se_var 3)) (se_var 4) (by rfl)))) (fun _ _ _ _ _ => (se_var 4)) (by decide))) (se_ofL (sl_lc (own := [(PySem.Str.ofString "own", 4)]) rfl S__law_stretched_holds.nd (si_seq (se_var 6)) (blkOk_by (own := [(PySem.Str.ofString "own", 4)]) (N := N__law_stretched_holds) (sc := defScope s__law_stretched_holds) (by decide +kernel)) (fun _ _ _ _ _ => (sg_name (i := 4) S__law_stretched_holds.nd)) (fun _ _ _ _ _ => sts_nil) (fun _ _ _ _ _ => (se_op op_mulA s_mul (se_var 3) (se_var 4))) (by decide))) (by rfl)) (st_or1 (st_cmp (op_gtA hu) s_gt (se_ix (se_c (c_closest_unit T) hr (by decide) hgd (by rfl) (sa_cons (se_var 5) (sa_cons (se_var 3) (sa_cons (se_op op_mulA s_mul se_int (se_var 3)) sa_nil)))) se_int (fun _ _ => rfl)) (se_op op_mulA s_mul (se_var 3) (se_ix (se_c (c_closest_unit T) hr (by decide) hgd (by rfl) (sa_cons (se_var 1) (sa_cons se_int (sa_cons se_int sa_nil)))) se_int (fun _ _ => rfl))) (by rfl))))) (ss_one (ss_ret se_bl)) ss_nil)
    (ss_cons (ss_set (i := 8) S__law_stretched_holds.nd (se_op op_addA s_add se_int (se_c (c__law_draw T) hr (by decide) hgd (by rfl) (sa_cons (se_var 0) (sa_cons se_int sa_nil)))))
    (ss_cons (ss_parT rfl (sn_cons (i := 9) S__law_stretched_holds.nd (sn_cons (i := 10) S__law_stretched_holds.nd sn_nil)) (sp_e (se_c (c_judge_unit T) hr (by decide) hgd (by rfl) (sa_cons (se_var 1) (sa_cons (se_var 2) (sa_cons (se_var 8) sa_nil)))) (sp_e (se_c (c_judge_unit T) hr (by decide) hgd (by rfl) (sa_cons (se_var 5) (sa_cons (se_op op_mulA s_mul (se_var 3) (se_var 2)) (sa_cons (se_op op_mulA s_mul (se_var 3) (se_var 8)) sa_nil)))) sp_nil)) rfl (by decide))
    (ss_cons (ss_if (st_w (st_or (st_cmp (op_neA hu) s_ne (se_var 10) (se_ifE (st_cmp (op_eqA hu) s_eq (se_ix (se_var 9) se_int (fun _ _ => rfl)) se_str (by rfl)) (se_var 9) (se_tup (sa_cons se_str (sa_cons (se_ix (se_var 9) se_int (fun _ _ => rfl)) (sa_cons (se_op op_mulA s_mul (se_var 3) (se_ix (se_var 9) se_int (fun _ _ => rfl))) sa_nil))))) (by rfl)) (st_or1 (st_cmp (op_neA hu) s_ne (se_c (c_off_weights T) hr (by decide) hgd (by rfl) (sa_cons (se_var 5) (sa_cons (se_op op_mulA s_mul (se_var 3) (se_var 2)) (sa_cons (se_op op_mulA s_mul (se_var 3) (se_var 8)) sa_nil)))) (se_c (c_off_weights T) hr (by decide) hgd (by rfl) (sa_cons (se_var 1) (sa_cons (se_var 2) (sa_cons (se_var 8) sa_nil)))) (by rfl))))) (ss_one (ss_ret se_bl)) ss_nil)
    (ss_cons (ss_if (st_w (st_and (st_cmp (op_eqA hu) s_eq (se_ix (se_var 9) se_int (fun _ _ => rfl)) se_str (by rfl)) (st_and1 (st_notN (se_c (c_accept_times T) hr (by decide) hgd (by rfl) (sa_cons (se_var 5) (sa_cons (se_op op_mulA s_mul (se_var 3) (se_var 2)) (sa_cons (se_op op_mulA s_mul (se_var 3) (se_var 8)) (sa_cons (se_ix (se_var 9) se_int (fun _ _ => rfl)) sa_nil))))))))) (ss_one (ss_ret se_bl)) ss_nil)
    (ss_cons (ss_set (i := 11) S__law_stretched_holds.nd (se_callTy call_tuple_of s_tuple (by rfl) T.b_tuple PyProof.Rows.boot_tuple (sa_cons (se_ofL (sl_lc (own := [(PySem.Str.ofString "own", 4)]) rfl S__law_stretched_holds.nd (si_seq (se_var 1)) (blkOk_by (own := [(PySem.Str.ofString "own", 4)]) (N := N__law_stretched_holds) (sc := defScope s__law_stretched_holds) (by decide +kernel)) (fun _ _ _ _ _ => (sg_name (i := 4) S__law_stretched_holds.nd)) (fun _ _ _ _ _ => sts_nil) (fun _ _ _ _ _ => (se_ifE (st_cmp (op_geA hu) s_ge (se_var 4) (se_var 8) (by rfl)) (se_op op_addA s_add (se_var 4) (se_var 8)) (se_var 4))) (by decide))) sa_nil)))
    (ss_cons (ss_if (st_cmp (op_neA hu) s_ne (se_c (c_off_weights T) hr (by decide) hgd (by rfl) (sa_cons (se_var 11) (sa_cons (se_var 2) (sa_cons (se_var 8) sa_nil)))) (se_c (c_off_weights T) hr (by decide) hgd (by rfl) (sa_cons (se_var 1) (sa_cons (se_var 2) (sa_cons (se_var 8) sa_nil)))) (by rfl)) (ss_one (ss_ret se_bl)) ss_nil)
    (ss_cons (ss_set (i := 12) S__law_stretched_holds.nd (se_c (c_judge_unit T) hr (by decide) hgd (by rfl) (sa_cons (se_var 11) (sa_cons (se_var 2) (sa_cons (se_var 8) sa_nil)))))
    (ss_cons (ss_if (st_cmp (op_eqA hu) s_eq (se_ix (se_var 9) se_int (fun _ _ => rfl)) se_str (by rfl)) (ss_one (ss_ret (se_cmp (op_eqA hu) s_eq (se_var 12) (se_var 9) (by rfl)))) ss_nil)
    (ss_one (ss_ret (se_cmp (op_eqA hu) s_eq (se_var 12) (se_tup (sa_cons se_str (sa_cons (se_callTy call_tuple_of s_tuple (by rfl) T.b_tuple PyProof.Rows.boot_tuple (sa_cons (se_ofL (sl_lc (own := [(PySem.Str.ofString "k", 13)]) rfl S__law_stretched_holds.nd (si_range1 (by rfl) T.b_range (se_callB call_len s_len (by rfl) T.b_len boot_len (sa_cons (se_var 1) sa_nil))) (blkOk_by (own := [(PySem.Str.ofString "k", 13)]) (N := N__law_stretched_holds) (sc := defScope s__law_stretched_holds) (by decide +kernel)) (fun _ _ _ _ _ => (sg_name (i := 13) S__law_stretched_holds.nd)) (fun _ _ _ _ _ => sts_nil) (fun _ _ _ _ _ => (se_op op_addA s_add (se_ix (se_ix (se_var 9) se_int (fun _ _ => rfl)) (se_var 13) (fun _ _ => rfl)) (se_ifE (st_cmp (op_geA hu) s_ge (se_ix (se_var 1) (se_var 13) (fun _ _ => rfl)) (se_var 8) (by rfl)) se_int se_int))) (by decide))) sa_nil)) sa_nil))) (by rfl))))))))))))))))
theorem c__law_stretched_holds (T : Top K mg) : Cal P w K mg base 5 (PySem.Str.ofString "_law_stretched_holds") g__law_stretched_holds 3 11 [] := by
  obtain ⟨f, fd, D⟩ := T.d__law_stretched_holds
  exact cal_of D (f__law_stretched_holds T D) rfl fun _ _ _ _ _ _ us hl => match us, hl with | [_, _, _], _ => rfl
theorem f_far {f : Addr} {fd : FuncData} (T : Top K mg) (D : Df K mg (PySem.Str.ofString "far") s_far [] f fd) : FnG P w K mg base 2 f fd [PySem.Str.ofString "weight", PySem.Str.ofString "slack", PySem.Str.ofString "unit"] (spF K g_far 3 1) := by
  obtain ⟨t_MAX_UNIT, m_MAX_UNIT⟩ := T.k_MAX_UNIT
  refine okD_def (n := 1) D.fn S_far rfl fun cdv A outer s H E hr hgd => ?_
  have hu : (A.deeper (envOfC (PySem.Str.ofString "far") (defScope s_far) s.heap.objs.size f cdv)).units + 200 < cLine := by have := hr.un; omega
  exact (ss_cons (ss_if (st_cmp (op_leA hu) s_le (se_callB call_abs s_abs (by rfl) T.b_abs PyProof.Rows.boot_abs (sa_cons (se_op op_sub s_sub (se_var 0) (se_op op_mulA s_mul (se_c (c_nearest T) hr (by decide) hgd (by rfl) (sa_cons (se_var 0) (sa_cons (se_var 2) sa_nil))) (se_var 2))) sa_nil)) (se_var 1) (by rfl)) (ss_one (ss_ret (se_op op_sub s_sub (se_var 2) se_int))) ss_nil)
    (ss_cons (ss_set (i := 3) S_far.nd (se_op op_fdivW s_div (se_var 0) (se_var 2)))
    (ss_cons (ss_if (st_cmp (op_eqA hu) s_eq (se_var 3) se_int (by rfl)) (ss_one (ss_ret (se_globI (by rfl) m_MAX_UNIT))) ss_nil)
    (ss_one (ss_ret (se_op op_fdivW s_div (se_op op_sub s_sub (se_op op_sub s_sub (se_var 0) (se_var 1)) se_int) (se_var 3)))))))
theorem c_far (T : Top K mg) : Cal P w K mg base 2 (PySem.Str.ofString "far") g_far 3 1 [] := by
  obtain ⟨f, fd, D⟩ := T.d_far
  exact cal_of D (f_far T D) rfl fun _ _ _ _ _ _ us hl => match us, hl with | [_, _, _], _ => rfl
theorem f_rows_against {f : Addr} {fd : FuncData} (T : Top K mg) (D : Df K mg (PySem.Str.ofString "rows_against") s_rows_against [] f fd) : FnG P w K mg base 4 f fd [PySem.Str.ofString "weights", PySem.Str.ofString "slack", PySem.Str.ofString "low", PySem.Str.ofString "high"] (spF K g_rows_against 4 4) := by
  refine okD_def (n := 4) D.fn S_rows_against rfl fun cdv A outer s H E hr hgd => ?_
  have hu : (A.deeper (envOfC (PySem.Str.ofString "rows_against") (defScope s_rows_against) s.heap.objs.size f cdv)).units + 200 < cLine := by have := hr.un; omega
  exact (ss_cons (ss_expr (se_c (c_check_range T) hr (by decide) hgd (by rfl) (sa_cons (se_var 0) (sa_cons (se_var 1) (sa_cons (se_var 2) (sa_cons (se_var 3) sa_nil))))))
    (ss_cons (ss_setL (i := 4) S_rows_against.nd (sl_lst sa_nil))
    (ss_cons (ss_set (i := 5) S_rows_against.nd (se_var 2))
    (ss_cons (ss_while PassesOwn.never (st_cmp (op_leA hu) s_le (se_var 5) (se_var 3) (by rfl)) (ss_cons (ss_setLc (i := 7) (own := [(PySem.Str.ofString "own", 6)]) rfl S_rows_against.nd (si_seq (se_var 0)) (blkOk_by (own := [(PySem.Str.ofString "own", 6)]) (N := N_rows_against) (sc := defScope s_rows_against) (by decide +kernel)) (fun _ _ _ _ _ => (sg_name (i := 6) S_rows_against.nd)) (fun _ _ _ _ _ => sts_nil) (fun _ _ _ _ _ => (se_callB (cr_minA rfl hu) s_min (by rfl) T.b_min PyProof.Rows.boot_min (sa_cons (se_c (c_far T) hr (by decide) hgd (by rfl) (sa_cons (se_var 6) (sa_cons (se_var 1) (sa_cons (se_var 5) sa_nil)))) (sa_cons (se_var 3) sa_nil)))) (by decide) (sw_true rfl rfl rfl (by decide +kernel)))
    (ss_cons (ss_if (st_cmp (op_ltA hu) s_lt (se_callB (cr_maxA rfl hu) s_max (by rfl) T.b_max PyProof.Rows.boot_max (sa_cons (se_var 7) sa_nil)) (se_var 5) (by rfl)) (ss_one (ss_ret se_non)) ss_nil)
    (ss_cons (ss_app 4 (se_tup (sa_cons (se_index hu (se_var 7) (se_callB (cr_maxA rfl hu) s_max (by rfl) T.b_max PyProof.Rows.boot_max (sa_cons (se_var 7) sa_nil))) (sa_cons (se_var 5) (sa_cons (se_callB (cr_maxA rfl hu) s_max (by rfl) T.b_max PyProof.Rows.boot_max (sa_cons (se_var 7) sa_nil)) sa_nil)))))
    (ss_one (ss_set (i := 5) S_rows_against.nd (se_op op_addA s_add (se_callB (cr_maxA rfl hu) s_max (by rfl) T.b_max PyProof.Rows.boot_max (sa_cons (se_var 7) sa_nil)) se_int)))))))
    (ss_one (ss_ret (se_callTy call_tuple_of s_tuple (by rfl) T.b_tuple PyProof.Rows.boot_tuple (sa_cons (se_var 4) sa_nil))))))))
theorem c_rows_against (T : Top K mg) : Cal P w K mg base 4 (PySem.Str.ofString "rows_against") g_rows_against 4 4 [] := by
  obtain ⟨f, fd, D⟩ := T.d_rows_against
  exact cal_of D (f_rows_against T D) rfl fun _ _ _ _ _ _ us hl => match us, hl with | [_, _, _, _], _ => rfl
theorem f_greatest_unit {f : Addr} {fd : FuncData} (T : Top K mg) (D : Df K mg (PySem.Str.ofString "greatest_unit") s_greatest_unit [] f fd) : FnG P w K mg base 5 f fd [PySem.Str.ofString "weights", PySem.Str.ofString "slack", PySem.Str.ofString "low", PySem.Str.ofString "high"] (spF K g_greatest_unit 4 1) := by
  refine okD_def (n := 1) D.fn S_greatest_unit rfl fun cdv A outer s H E hr hgd => ?_
  have hu : (A.deeper (envOfC (PySem.Str.ofString "greatest_unit") (defScope s_greatest_unit) s.heap.objs.size f cdv)).units + 200 < cLine := by have := hr.un; omega
  exact (ss_cons (ss_set (i := 4) S_greatest_unit.nd (se_c (c_good_units T) hr (by decide) hgd (by rfl) (sa_cons (se_var 0) (sa_cons (se_var 1) (sa_cons (se_var 2) (sa_cons (se_var 3) sa_nil))))))
    (ss_one (ss_ret (se_ifE (st_tru (se_var 4)) (se_ix (se_var 4) (se_un un_neg s_neg se_int) (fun _ _ => rfl)) se_non))))
theorem c_greatest_unit (T : Top K mg) : Cal P w K mg base 5 (PySem.Str.ofString "greatest_unit") g_greatest_unit 4 1 [] := by
  obtain ⟨f, fd, D⟩ := T.d_greatest_unit
  exact cal_of D (f_greatest_unit T D) rfl fun _ _ _ _ _ _ us hl => match us, hl with | [_, _, _, _], _ => rfl
theorem f_accept_none {f : Addr} {fd : FuncData} (T : Top K mg) (D : Df K mg (PySem.Str.ofString "accept_none") s_accept_none [] f fd) : FnG P w K mg base 4 f fd [PySem.Str.ofString "weights", PySem.Str.ofString "slack", PySem.Str.ofString "low", PySem.Str.ofString "high", PySem.Str.ofString "rows"] (spF K g_accept_none 5 7) := by
  refine okD_def (n := 7) D.fn S_accept_none rfl fun cdv A outer s H E hr hgd => ?_
  have hu : (A.deeper (envOfC (PySem.Str.ofString "accept_none") (defScope s_accept_none) s.heap.objs.size f cdv)).units + 200 < cLine := by have := hr.un; omega
  exact (ss_cons (ss_expr (se_c (c_check_range T) hr (by decide) hgd (by rfl) (sa_cons (se_var 0) (sa_cons (se_var 1) (sa_cons (se_var 2) (sa_cons (se_var 3) sa_nil))))))
    (ss_cons (ss_if (st_w (st_or (st_not (st_tru (se_isi (se_var 4) (by rfl) T.b_isinstance PyProof.Rows.boot_isinstance (by rfl) T.b_tuple PyProof.Rows.boot_tuple))) (st_or1 (st_not (st_tru (se_callB (cr_all rfl) s_all (by rfl) T.b_all PyProof.Rows.boot_all (sa_cons (se_ofL (sl_lc (own := [(PySem.Str.ofString "row", 5)]) rfl S_accept_none.nd (si_seq (se_var 4)) (blkOk_by (own := [(PySem.Str.ofString "row", 5)]) (N := N_accept_none) (sc := defScope s_accept_none) (by decide +kernel)) (fun _ _ _ _ _ => (sg_name (i := 5) S_accept_none.nd)) (fun _ _ _ _ _ => sts_nil) (fun _ _ _ _ _ => (se_andT (se_isi (se_var 5) (by rfl) T.b_isinstance PyProof.Rows.boot_isinstance (by rfl) T.b_tuple PyProof.Rows.boot_tuple) (se_one (se_cmp (op_eqA hu) s_eq (se_callB call_len s_len (by rfl) T.b_len boot_len (sa_cons (se_var 5) sa_nil)) se_int (by rfl))))) (by decide))) sa_nil))))))) (ss_one ss_never) ss_nil)
    (ss_cons (ss_if (st_not (st_tru (se_callB (cr_all rfl) s_all (by rfl) T.b_all PyProof.Rows.boot_all (sa_cons (se_ofL (sl_lc2 (own := [(PySem.Str.ofString "row", 5), (PySem.Str.ofString "own", 6)]) (vs1 := [6]) rfl S_accept_none.nd (si_seq (se_var 4)) (blkOk_by (own := [(PySem.Str.ofString "row", 5), (PySem.Str.ofString "own", 6)]) (N := N_accept_none) (sc := defScope s_accept_none) (by decide +kernel)) (by decide) (fun _ _ _ _ _ => (sg_name (i := 5) S_accept_none.nd)) (fun _ _ _ _ _ => sts_nil) (fun _ _ _ _ _ => (si_seq (se_var 5))) (fun _ _ _ _ _ => (sg_name (i := 6) S_accept_none.nd)) (fun _ _ _ _ _ => sts_nil) (fun _ _ _ _ _ => (se_c (c_is_integer T) hr (by decide) hgd (by rfl) (sa_cons (se_var 6) sa_nil))) (by decide) (by decide))) sa_nil)))) (ss_one ss_never) ss_nil)
    (ss_cons (ss_if (st_tru (se_ofL (sl_lc (own := [(PySem.Str.ofString "at", 7), (PySem.Str.ofString "first", 8), (PySem.Str.ofString "last", 9)]) rfl S_accept_none.nd (si_seq (se_var 4)) (blkOk_by (own := [(PySem.Str.ofString "at", 7), (PySem.Str.ofString "first", 8), (PySem.Str.ofString "last", 9)]) (N := N_accept_none) (sc := defScope s_accept_none) (by decide +kernel)) (fun _ _ _ _ _ => (sg_tup rfl (sgs_cons (sg_name (i := 7) S_accept_none.nd) (sgs_cons (sg_name (i := 8) S_accept_none.nd) (sgs_cons (sg_name (i := 9) S_accept_none.nd) sgs_nil))) (hl := (len_gCons (len_gCons (len_gCons len_gNil)))))) (fun _ _ _ _ _ => (sts_one (st_not (st_chain (op_leA hu) (op_ltA hu) s_le s_lt se_int (se_var 7) (se_callB call_len s_len (by rfl) T.b_len boot_len (sa_cons (se_var 0) sa_nil)))))) (fun _ _ _ _ _ => (se_var 7)) (by decide)))) (ss_one ss_never) ss_nil)
    (ss_cons (ss_set (i := 10) S_accept_none.nd (se_var 2))
    (ss_cons (ss_for PassesOwn.never rfl (si_seq (se_var 4)) (sg_tup rfl (sgs_cons (sg_name (i := 7) S_accept_none.nd) (sgs_cons (sg_name (i := 8) S_accept_none.nd) (sgs_cons (sg_name (i := 9) S_accept_none.nd) sgs_nil))) (hl := (len_gCons (len_gCons (len_gCons len_gNil))))) (ss_cons (ss_if (st_w (st_or (st_cmp (op_neA hu) s_ne (se_var 8) (se_var 10) (by rfl)) (st_or1 (st_cmp (op_ltA hu) s_lt (se_var 9) (se_var 8) (by rfl))))) (ss_one ss_never) ss_nil)
    (ss_one (ss_set (i := 10) S_accept_none.nd (se_op op_addA s_add (se_var 9) se_int)))))
    (ss_cons (ss_if (st_cmp (op_neA hu) s_ne (se_var 10) (se_op op_addA s_add (se_var 3) se_int) (by rfl)) (ss_one ss_never) ss_nil)
    (ss_one (ss_for PassesOwn.never rfl (si_seq (se_var 4)) (sg_tup rfl (sgs_cons (sg_name (i := 7) S_accept_none.nd) (sgs_cons (sg_name (i := 8) S_accept_none.nd) (sgs_cons (sg_name (i := 9) S_accept_none.nd) sgs_nil))) (hl := (len_gCons (len_gCons (len_gCons len_gNil))))) (ss_cons (ss_set (i := 6) S_accept_none.nd (se_ix (se_var 0) (se_var 7) (fun _ _ => rfl)))
    (ss_cons (ss_set (i := 11) S_accept_none.nd (se_op op_fdivW s_div (se_var 6) (se_var 9)))
    (ss_one (ss_if (st_w (st_or (st_w (st_and (st_cmp (op_gtA hu) s_gt (se_var 11) se_int (by rfl)) (st_and1 (st_cmp (op_leA hu) s_le (se_op op_sub s_sub (se_var 6) (se_op op_mulA s_mul (se_var 11) (se_var 9))) (se_var 1) (by rfl))))) (st_or1 (st_cmp (op_leA hu) s_le (se_op op_sub s_sub (se_op op_mulA s_mul (se_op op_addA s_add (se_var 11) se_int) (se_var 8)) (se_var 6)) (se_var 1) (by rfl))))) (ss_one ss_never) ss_nil)))))))))))))
theorem c_accept_none (T : Top K mg) : Cal P w K mg base 4 (PySem.Str.ofString "accept_none") g_accept_none 5 7 [] := by
  obtain ⟨f, fd, D⟩ := T.d_accept_none
  exact cal_of D (f_accept_none T D) rfl fun _ _ _ _ _ _ us hl => match us, hl with | [_, _, _, _, _], _ => rfl
theorem f__law_closest_holds {f : Addr} {fd : FuncData} (T : Top K mg) (D : Df K mg (PySem.Str.ofString "_law_closest_holds") s__law_closest_holds [] f fd) : FnG P w K mg base 6 f fd [PySem.Str.ofString "state", PySem.Str.ofString "weights"] (spF K g__law_closest_holds 2 6) := by
  refine okD_def (n := 6) D.fn S__law_closest_holds rfl fun cdv A outer s H E hr hgd => ?_
  have hu : (A.deeper (envOfC (PySem.Str.ofString "_law_closest_holds") (defScope s__law_closest_holds) s.heap.objs.size f cdv)).units + 200 < cLine := by have := hr.un; omega
  exact (ss_cons (ss_set (i := 2) S__law_closest_holds.nd (se_op op_addA s_add se_int (se_c (c__law_draw T) hr (by decide) hgd (by rfl) (sa_cons (se_var 0) (sa_cons se_int sa_nil)))))
    (ss_cons (ss_set (i := 3) S__law_closest_holds.nd (se_op op_addA s_add (se_var 2) (se_c (c__law_draw T) hr (by decide) hgd (by rfl) (sa_cons (se_var 0) (sa_cons se_int sa_nil)))))
    (ss_cons (ss_asg (se_c (c_closest_unit T) hr (by decide) hgd (by rfl) (sa_cons (se_var 1) (sa_cons (se_var 2) (sa_cons (se_var 3) sa_nil)))) (sg_tup rfl (sgs_cons (sg_name (i := 4) S__law_closest_holds.nd) (sgs_cons (sg_name (i := 5) S__law_closest_holds.nd) sgs_nil)) (hl := (len_gCons (len_gCons len_gNil)))))
    (ss_cons (ss_if (st_w (st_or (st_cmp (op_neA hu) s_ne (se_c (c_greatest_unit T) hr (by decide) hgd (by rfl) (sa_cons (se_var 1) (sa_cons (se_var 4) (sa_cons (se_var 2) (sa_cons (se_var 3) sa_nil))))) (se_var 5) (by rfl)) (st_or (st_notN (se_c (c_rows_against T) hr (by decide) hgd (by rfl) (sa_cons (se_var 1) (sa_cons (se_var 4) (sa_cons (se_var 2) (sa_cons (se_var 3) sa_nil)))))) (st_or1 (st_cmp (op_neA hu) s_ne (se_ix (se_c (c_judge_unit T) hr (by decide) hgd (by rfl) (sa_cons (se_var 1) (sa_cons (se_var 4) (sa_cons (se_var 5) sa_nil)))) se_int (fun _ _ => rfl)) se_str (by rfl)))))) (ss_one (ss_ret se_bl)) ss_nil)
    (ss_cons (ss_if (st_cmp (op_gtA hu) s_gt (se_var 4) se_int (by rfl)) (ss_cons (ss_set (i := 6) S__law_closest_holds.nd (se_c (c_rows_against T) hr (by decide) hgd (by rfl) (sa_cons (se_var 1) (sa_cons (se_op op_sub s_sub (se_var 4) se_int) (sa_cons (se_var 2) (sa_cons (se_var 3) sa_nil))))))
    (ss_one (ss_if (st_w (st_or (st_isN (se_var 6)) (st_or (st_notN (se_c (c_accept_none T) hr (by decide) hgd (by rfl) (sa_cons (se_var 1) (sa_cons (se_op op_sub s_sub (se_var 4) se_int) (sa_cons (se_var 2) (sa_cons (se_var 3) (sa_cons (se_var 6) sa_nil))))))) (st_or1 (st_cmp (op_neA hu) s_ne (se_c (c_good_units T) hr (by decide) hgd (by rfl) (sa_cons (se_var 1) (sa_cons (se_op op_sub s_sub (se_var 4) se_int) (sa_cons (se_var 2) (sa_cons (se_var 3) sa_nil))))) (se_tup sa_nil) (by rfl)))))) (ss_one (ss_ret se_bl)) ss_nil))) ss_nil)
    (ss_one (ss_ret (se_cmp (op_eqA hu) s_eq (se_ofL (sl_lc (own := [(PySem.Str.ofString "own", 7)]) rfl S__law_closest_holds.nd (si_range2 (by rfl) T.b_range (se_var 2) (se_op op_addA s_add (se_var 3) se_int)) (blkOk_by (own := [(PySem.Str.ofString "own", 7)]) (N := N__law_closest_holds) (sc := defScope s__law_closest_holds) (by decide +kernel)) (fun _ _ _ _ _ => (sg_name (i := 7) S__law_closest_holds.nd)) (fun _ _ _ _ _ => (sts_one (st_w (st_and (st_cmp (op_eqA hu) s_eq (se_ix (se_c (c_judge_unit T) hr (by decide) hgd (by rfl) (sa_cons (se_var 1) (sa_cons (se_var 4) (sa_cons (se_var 7) sa_nil)))) se_int (fun _ _ => rfl)) se_str (by rfl)) (st_and1 (st_cmp (op_gtA hu) s_gt (se_var 7) (se_var 5) (by rfl))))))) (fun _ _ _ _ _ => (se_var 7)) (by decide))) (se_ofL (sl_lst sa_nil)) (by rfl)))))))))
theorem c__law_closest_holds (T : Top K mg) : Cal P w K mg base 6 (PySem.Str.ofString "_law_closest_holds") g__law_closest_holds 2 6 [] := by
  obtain ⟨f, fd, D⟩ := T.d__law_closest_holds
  exact cal_of D (f__law_closest_holds T D) rfl fun _ _ _ _ _ _ us hl => match us, hl with | [_, _], _ => rfl
theorem f_common_unit {f : Addr} {fd : FuncData} (T : Top K mg) (D : Df K mg (PySem.Str.ofString "common_unit") s_common_unit [] f fd) : FnG P w K mg base 3 f fd [PySem.Str.ofString "weights"] (spF K g_common_unit 1 2) := by
  refine okD_def (n := 2) D.fn S_common_unit rfl fun cdv A outer s H E hr hgd => ?_
  have hu : (A.deeper (envOfC (PySem.Str.ofString "common_unit") (defScope s_common_unit) s.heap.objs.size f cdv)).units + 200 < cLine := by have := hr.un; omega
  exact (ss_cons (ss_expr (se_c (c_check_weights T) hr (by decide) hgd (by rfl) (sa_cons (se_var 0) sa_nil)))
    (ss_cons (ss_set (i := 1) S_common_unit.nd (se_ix (se_var 0) se_int (fun _ _ => rfl)))
    (ss_cons (ss_for PassesOwn.never rfl (si_seq (se_slice (se_var 0) (so_some se_int) so_none)) (sg_name (i := 2) S_common_unit.nd) (ss_one (ss_while PassesOwn.never (st_tru (se_var 2)) (ss_one (ss_par (i := 1) (j := 2) rfl S_common_unit.nd (sp_e (se_var 2) (sp_e (se_op op_mod s_mod (se_var 1) (se_var 2)) sp_nil)) (by decide))))))
    (ss_one (ss_ret (se_var 1))))))
theorem c_common_unit (T : Top K mg) : Cal P w K mg base 3 (PySem.Str.ofString "common_unit") g_common_unit 1 2 [] := by
  obtain ⟨f, fd, D⟩ := T.d_common_unit
  exact cal_of D (f_common_unit T D) rfl fun _ _ _ _ _ _ us hl => match us, hl with | [_], _ => rfl
theorem f__law_same {f : Addr} {fd : FuncData} (T : Top K mg) (D : Df K mg (PySem.Str.ofString "_law_same") s__law_same [] f fd) : FnG P w K mg base 1 f fd [PySem.Str.ofString "actual", PySem.Str.ofString "due"] (spF K g__law_same 2 0) := by
  refine okD_def (n := 0) D.fn S__law_same rfl fun cdv A outer s H E hr hgd => ?_
  have hu : (A.deeper (envOfC (PySem.Str.ofString "_law_same") (defScope s__law_same) s.heap.objs.size f cdv)).units + 200 < cLine := by have := hr.un; omega
  exact (ss_one (ss_ret (se_andT (se_cmp (op_eqA hu) s_eq (se_var 0) (se_var 1) (by rfl)) (se_one (se_cmp (op_eqA hu) s_eq (se_callB (cr_reprD hgd hu) s_repr (by rfl) T.b_repr PyProof.Rows.boot_repr (sa_cons (se_var 0) sa_nil)) (se_callB (cr_reprD hgd hu) s_repr (by rfl) T.b_repr PyProof.Rows.boot_repr (sa_cons (se_var 1) sa_nil)) (by rfl))))))
theorem c__law_same (T : Top K mg) : Cal P w K mg base 1 (PySem.Str.ofString "_law_same") g__law_same 2 0 [] := by
  obtain ⟨f, fd, D⟩ := T.d__law_same
  exact cal_of D (f__law_same T D) rfl fun _ _ _ _ _ _ us hl => match us, hl with | [_, _], _ => rfl
theorem f__law_heaps_hold {f : Addr} {fd : FuncData} (T : Top K mg) (D : Df K mg (PySem.Str.ofString "_law_heaps_hold") s__law_heaps_hold [] f fd) : FnG P w K mg base 5 f fd [PySem.Str.ofString "state", PySem.Str.ofString "weights", PySem.Str.ofString "slack"] (spF K g__law_heaps_hold 3 9) := by
  refine okD_def (n := 9) D.fn S__law_heaps_hold rfl fun cdv A outer s H E hr hgd => ?_
  have hu : (A.deeper (envOfC (PySem.Str.ofString "_law_heaps_hold") (defScope s__law_heaps_hold) s.heap.objs.size f cdv)).units + 200 < cLine := by have := hr.un; omega
  exact (ss_cons (ss_set (i := 3) S__law_heaps_hold.nd (se_c (c__law_weights T) hr (by decide) hgd (by rfl) (sa_cons (se_var 0) sa_nil)))
    (ss_cons (ss_asg (se_ofL (sl_lc (own := [(PySem.Str.ofString "own", 4)]) rfl S__law_heaps_hold.nd (si_seq (se_ofL (sl_lst (sa_cons (se_var 1) (sa_cons (se_var 3) (sa_cons (se_op op_addA s_add (se_var 1) (se_var 3)) sa_nil)))))) (blkOk_by (own := [(PySem.Str.ofString "own", 4)]) (N := N__law_heaps_hold) (sc := defScope s__law_heaps_hold) (by decide +kernel)) (fun _ _ _ _ _ => (sg_name (i := 4) S__law_heaps_hold.nd)) (fun _ _ _ _ _ => sts_nil) (fun _ _ _ _ _ => (se_c (c_good_units T) hr (by decide) hgd (by rfl) (sa_cons (se_var 4) (sa_cons (se_var 2) (sa_cons se_int (sa_cons se_int sa_nil)))))) (by decide))) (sg_unl rfl (sgs_cons (sg_name (i := 5) S__law_heaps_hold.nd) (sgs_cons (sg_name (i := 6) S__law_heaps_hold.nd) (sgs_cons (sg_name (i := 7) S__law_heaps_hold.nd) sgs_nil))) (hl := (len_gCons (len_gCons (len_gCons len_gNil))))))
    (ss_cons (ss_if (st_w (st_or (st_cmp (op_neA hu) s_ne (se_var 7) (se_callTy call_tuple_of s_tuple (by rfl) T.b_tuple PyProof.Rows.boot_tuple (sa_cons (se_ofL (sl_lc (own := [(PySem.Str.ofString "own", 4)]) rfl S__law_heaps_hold.nd (si_seq (se_var 5)) (blkOk_by (own := [(PySem.Str.ofString "own", 4)]) (N := N__law_heaps_hold) (sc := defScope s__law_heaps_hold) (by decide +kernel)) (fun _ _ _ _ _ => (sg_name (i := 4) S__law_heaps_hold.nd)) (fun _ _ _ _ _ => (sts_one (st_cmp (op_inA hu) s_in (se_var 4) (se_var 6) (by rfl)))) (fun _ _ _ _ _ => (se_var 4)) (by decide))) sa_nil)) (by rfl)) (st_or1 (st_cmp (op_neA hu) s_ne (se_c (c_common_unit T) hr (by decide) hgd (by rfl) (sa_cons (se_op op_addA s_add (se_var 1) (se_var 3)) sa_nil)) (se_c (c_common_unit T) hr (by decide) hgd (by rfl) (sa_cons (se_tup (sa_cons (se_c (c_common_unit T) hr (by decide) hgd (by rfl) (sa_cons (se_var 1) sa_nil)) (sa_cons (se_c (c_common_unit T) hr (by decide) hgd (by rfl) (sa_cons (se_var 3) sa_nil)) sa_nil))) sa_nil)) (by rfl))))) (ss_one (ss_ret se_bl)) ss_nil)
    (ss_cons (ss_set (i := 8) S__law_heaps_hold.nd (se_op op_addA s_add se_int (se_c (c__law_draw T) hr (by decide) hgd (by rfl) (sa_cons (se_var 0) (sa_cons se_int sa_nil)))))
    (ss_cons (ss_set (i := 9) S__law_heaps_hold.nd (se_op op_addA s_add (se_c (c_off_weights T) hr (by decide) hgd (by rfl) (sa_cons (se_var 1) (sa_cons (se_var 2) (sa_cons (se_var 8) sa_nil)))) (se_callTy call_tuple_of s_tuple (by rfl) T.b_tuple PyProof.Rows.boot_tuple (sa_cons (se_ofL (sl_lc (own := [(PySem.Str.ofString "own", 4)]) rfl S__law_heaps_hold.nd (si_seq (se_c (c_off_weights T) hr (by decide) hgd (by rfl) (sa_cons (se_var 3) (sa_cons (se_var 2) (sa_cons (se_var 8) sa_nil))))) (blkOk_by (own := [(PySem.Str.ofString "own", 4)]) (N := N__law_heaps_hold) (sc := defScope s__law_heaps_hold) (by decide +kernel)) (fun _ _ _ _ _ => (sg_name (i := 4) S__law_heaps_hold.nd)) (fun _ _ _ _ _ => sts_nil) (fun _ _ _ _ _ => (se_op op_addA s_add (se_var 4) (se_callB call_len s_len (by rfl) T.b_len boot_len (sa_cons (se_var 1) sa_nil)))) (by decide))) sa_nil))))
    (ss_cons (ss_if (st_w (st_or (st_not (st_tru (se_c (c__law_same T) hr (by decide) hgd (by rfl) (sa_cons (se_c (c_off_weights T) hr (by decide) hgd (by rfl) (sa_cons (se_op op_addA s_add (se_var 1) (se_var 3)) (sa_cons (se_var 2) (sa_cons (se_var 8) sa_nil)))) (sa_cons (se_var 9) sa_nil))))) (st_or1 (st_cmp (op_neA hu) s_ne (se_c (c_good_units T) hr (by decide) hgd (by rfl) (sa_cons (se_op op_addA s_add (se_var 1) (se_var 1)) (sa_cons (se_var 2) (sa_cons se_int (sa_cons se_int sa_nil))))) (se_var 5) (by rfl))))) (ss_one (ss_ret se_bl)) ss_nil)
    (ss_cons (ss_setLc (i := 11) (own := [(PySem.Str.ofString "own", 4)]) rfl S__law_heaps_hold.nd (si_range2 (by rfl) T.b_range se_int se_int) (blkOk_by (own := [(PySem.Str.ofString "own", 4)]) (N := N__law_heaps_hold) (sc := defScope s__law_heaps_hold) (by decide +kernel)) (fun _ _ _ _ _ => (sg_name (i := 4) S__law_heaps_hold.nd)) (fun _ _ _ _ _ => (sts_one (st_cmp (op_eqA hu) s_eq (se_ofL (sl_lc (own := [(PySem.Str.ofString "weight", 10)]) rfl S__law_heaps_hold.nd (si_seq (se_var 1)) (blkOk_by (own := [(PySem.Str.ofString "weight", 10)]) (N := N__law_heaps_hold) (sc := relS _ (defScope s__law_heaps_hold)) (by decide +kernel)) (fun _ _ _ _ _ => (sg_name (i := 10) S__law_heaps_hold.nd)) (fun _ _ _ _ _ => (sts_one (st_cmp (op_neA hu) s_ne (se_op op_mulA s_mul (se_op op_fdivW s_div (se_var 10) (se_var 4)) (se_var 4)) (se_var 10) (by rfl)))) (fun _ _ _ _ _ => (se_var 10)) (by decide))) (se_ofL (sl_lst sa_nil)) (by rfl)))) (fun _ _ _ _ _ => (se_var 4)) (by decide) (sw_true rfl rfl rfl (by decide +kernel)))
    (ss_one (ss_ret (se_andT (se_cmp (op_eqA hu) s_eq (se_c (c_good_units T) hr (by decide) hgd (by rfl) (sa_cons (se_var 1) (sa_cons se_int (sa_cons se_int (sa_cons se_int sa_nil))))) (se_callTy call_tuple_of s_tuple (by rfl) T.b_tuple PyProof.Rows.boot_tuple (sa_cons (se_var 11) sa_nil)) (by rfl)) (se_one (se_cmp (op_eqA hu) s_eq (se_ofL (sl_lc (own := [(PySem.Str.ofString "own", 4)]) rfl S__law_heaps_hold.nd (si_seq (se_var 11)) (blkOk_by (own := [(PySem.Str.ofString "own", 4)]) (N := N__law_heaps_hold) (sc := defScope s__law_heaps_hold) (by decide +kernel)) (fun _ _ _ _ _ => (sg_name (i := 4) S__law_heaps_hold.nd)) (fun _ _ _ _ _ => (sts_one (st_cmp (op_neA hu) s_ne (se_op op_mulA s_mul (se_op op_fdivW s_div (se_c (c_common_unit T) hr (by decide) hgd (by rfl) (sa_cons (se_var 1) sa_nil)) (se_var 4)) (se_var 4)) (se_c (c_common_unit T) hr (by decide) hgd (by rfl) (sa_cons (se_var 1) sa_nil)) (by rfl)))) (fun _ _ _ _ _ => (se_var 4)) (by decide))) (se_ofL (sl_lst sa_nil)) (by rfl)))))))))))))
theorem c__law_heaps_hold (T : Top K mg) : Cal P w K mg base 5 (PySem.Str.ofString "_law_heaps_hold") g__law_heaps_hold 3 9 [] := by
  obtain ⟨f, fd, D⟩ := T.d__law_heaps_hold
  exact cal_of D (f__law_heaps_hold T D) rfl fun _ _ _ _ _ _ us hl => match us, hl with | [_, _, _], _ => rfl
theorem f_law {f : Addr} {fd : FuncData} (T : Top K mg) (D : Df K mg (PySem.Str.ofString "law") s_law [] f fd) : FnG P w K mg base 7 f fd [PySem.Str.ofString "script"] (spF K g_law 1 4) := by
  refine okD_def (n := 4) D.fn S_law rfl fun cdv A outer s H E hr hgd => ?_
  have hu : (A.deeper (envOfC (PySem.Str.ofString "law") (defScope s_law) s.heap.objs.size f cdv)).units + 200 < cLine := by have := hr.un; omega
  exact (ss_cons (ss_setL (i := 1) S_law.nd (sl_call0 (c__law_start T) hr (by decide) hgd (by rfl) (sa_cons (se_var 0) sa_nil)))
    (ss_cons (ss_for PassesOwn.never rfl (si_range1 (by rfl) T.b_range se_int) (sg_name (i := 2) S_law.nd) (ss_cons (ss_par (i := 3) (j := 4) rfl S_law.nd (sp_e (se_c (c__law_weights T) hr (by decide) hgd (by rfl) (sa_cons (se_var 1) sa_nil)) (sp_e (se_c (c__law_draw T) hr (by decide) hgd (by rfl) (sa_cons (se_var 1) (sa_cons se_int sa_nil))) sp_nil)) (by decide))
    (ss_cons (ss_if (st_w (st_or (st_not (st_tru (se_c (c__law_divisors_hold T) hr (by decide) hgd (by rfl) (sa_cons (se_var 3) (sa_cons (se_var 4) sa_nil))))) (st_or1 (st_not (st_tru (se_c (c__law_stretched_holds T) hr (by decide) hgd (by rfl) (sa_cons (se_var 1) (sa_cons (se_var 3) (sa_cons (se_var 4) sa_nil))))))))) (ss_one (ss_ret se_bl)) ss_nil)
    (ss_one (ss_if (st_w (st_or (st_not (st_tru (se_c (c__law_closest_holds T) hr (by decide) hgd (by rfl) (sa_cons (se_var 1) (sa_cons (se_var 3) sa_nil))))) (st_or1 (st_not (st_tru (se_c (c__law_heaps_hold T) hr (by decide) hgd (by rfl) (sa_cons (se_var 1) (sa_cons (se_var 3) (sa_cons (se_var 4) sa_nil))))))))) (ss_one (ss_ret se_bl)) ss_nil)))))
    (ss_one (ss_ret se_bl))))
end
theorem all_mk {l : PySem.W.OpenLaw} {w : World} {K : PySem.W.Frag} {h : Heap} {mg : Str → Option Value} {fa : Addr} {f0 : Addr} {od0 an0 : Option Addr} {sl0 : Array (Option Value)} {oc0 kV0 dc0 pm0 cd0 ct0 : Value} {f1 : Addr} {od1 an1 : Option Addr} {sl1 : Array (Option Value)} {oc1 kV1 dc1 pm1 cd1 ct1 : Value} {f2 : Addr} {od2 an2 : Option Addr} {sl2 : Array (Option Value)} {oc2 kV2 dc2 pm2 cd2 ct2 : Value} {f3 : Addr} {od3 an3 : Option Addr} {sl3 : Array (Option Value)} {oc3 kV3 dc3 pm3 cd3 ct3 : Value} {f4 : Addr} {od4 an4 : Option Addr} {sl4 : Array (Option Value)} {oc4 kV4 dc4 pm4 cd4 ct4 : Value} {f5 : Addr} {od5 an5 : Option Addr} {sl5 : Array (Option Value)} {oc5 kV5 dc5 pm5 cd5 ct5 : Value} {f6 : Addr} {od6 an6 : Option Addr} {sl6 : Array (Option Value)} {oc6 kV6 dc6 pm6 cd6 ct6 : Value} {T6 : Addr} {tk6_0 : Tok} {tc6 : Value} {td6 : Option Addr} {tn6 : Nat} {ts6 : Array (Option Value)} {f7 : Addr} {od7 an7 : Option Addr} {sl7 : Array (Option Value)} {oc7 kV7 dc7 pm7 cd7 ct7 : Value} {f8 : Addr} {od8 an8 : Option Addr} {sl8 : Array (Option Value)} {oc8 kV8 dc8 pm8 cd8 ct8 : Value} {f9 : Addr} {od9 an9 : Option Addr} {sl9 : Array (Option Value)} {oc9 kV9 dc9 pm9 cd9 ct9 : Value} {f10 : Addr} {od10 an10 : Option Addr} {sl10 : Array (Option Value)} {oc10 kV10 dc10 pm10 cd10 ct10 : Value} {f11 : Addr} {od11 an11 : Option Addr} {sl11 : Array (Option Value)} {oc11 kV11 dc11 pm11 cd11 ct11 : Value} {f12 : Addr} {od12 an12 : Option Addr} {sl12 : Array (Option Value)} {oc12 kV12 dc12 pm12 cd12 ct12 : Value} {f13 : Addr} {od13 an13 : Option Addr} {sl13 : Array (Option Value)} {oc13 kV13 dc13 pm13 cd13 ct13 : Value} {f14 : Addr} {od14 an14 : Option Addr} {sl14 : Array (Option Value)} {oc14 kV14 dc14 pm14 cd14 ct14 : Value} {f15 : Addr} {od15 an15 : Option Addr} {sl15 : Array (Option Value)} {oc15 kV15 dc15 pm15 cd15 ct15 : Value} {f16 : Addr} {od16 an16 : Option Addr} {sl16 : Array (Option Value)} {oc16 kV16 dc16 pm16 cd16 ct16 : Value} {f17 : Addr} {od17 an17 : Option Addr} {sl17 : Array (Option Value)} {oc17 kV17 dc17 pm17 cd17 ct17 : Value} {f18 : Addr} {od18 an18 : Option Addr} {sl18 : Array (Option Value)} {oc18 kV18 dc18 pm18 cd18 ct18 : Value} {f19 : Addr} {od19 an19 : Option Addr} {sl19 : Array (Option Value)} {oc19 kV19 dc19 pm19 cd19 ct19 : Value} {f20 : Addr} {od20 an20 : Option Addr} {sl20 : Array (Option Value)} {oc20 kV20 dc20 pm20 cd20 ct20 : Value} {f21 : Addr} {od21 an21 : Option Addr} {sl21 : Array (Option Value)} {oc21 kV21 dc21 pm21 cd21 ct21 : Value} {f22 : Addr} {od22 an22 : Option Addr} {sl22 : Array (Option Value)} {oc22 kV22 dc22 pm22 cd22 ct22 : Value} {f23 : Addr} {od23 an23 : Option Addr} {sl23 : Array (Option Value)} {oc23 kV23 dc23 pm23 cd23 ct23 : Value} {f24 : Addr} {od24 an24 : Option Addr} {sl24 : Array (Option Value)} {oc24 kV24 dc24 pm24 cd24 ct24 : Value} {f25 : Addr} {od25 an25 : Option Addr} {sl25 : Array (Option Value)} {oc25 kV25 dc25 pm25 cd25 ct25 : Value} {tz_MAX_COINS : Tok} {tz_MAX_LOOKED : Tok} {tz_MAX_UNIT : Tok}
    (X : K.In h) (G : h.Ns mainGlobals mg) (hfa : mg (PySem.Str.ofString "law") = some (.ref fa))
    (a0 : PySem.W.nsIn K mainGlobals (PySem.Str.ofString "_law_start") = some (some (.ref f0)))
    (l0 : K.lookup f0 = some ⟨oc0, od0, .func (PySem.W.fnOf (PySem.Str.ofString "_law_start") (PySem.Str.ofString "_law_start") (defArgs s__law_start) (defBody s__law_start) (defScope s__law_start) .none kV0 dc0 pm0 an0 cd0 ct0), sl0⟩)
    (c0 : PySem.W.codeIn K cd0 (PySem.Str.ofString "_law_start") = true)
    (k0 : PySem.W.keepIn K (.ref f0) = true)
    (a1 : PySem.W.nsIn K mainGlobals (PySem.Str.ofString "_law_draw") = some (some (.ref f1)))
    (l1 : K.lookup f1 = some ⟨oc1, od1, .func (PySem.W.fnOf (PySem.Str.ofString "_law_draw") (PySem.Str.ofString "_law_draw") (defArgs s__law_draw) (defBody s__law_draw) (defScope s__law_draw) .none kV1 dc1 pm1 an1 cd1 ct1), sl1⟩)
    (c1 : PySem.W.codeIn K cd1 (PySem.Str.ofString "_law_draw") = true)
    (k1 : PySem.W.keepIn K (.ref f1) = true)
    (a2 : PySem.W.nsIn K mainGlobals (PySem.Str.ofString "_law_weights") = some (some (.ref f2)))
    (l2 : K.lookup f2 = some ⟨oc2, od2, .func (PySem.W.fnOf (PySem.Str.ofString "_law_weights") (PySem.Str.ofString "_law_weights") (defArgs s__law_weights) (defBody s__law_weights) (defScope s__law_weights) .none kV2 dc2 pm2 an2 cd2 ct2), sl2⟩)
    (c2 : PySem.W.codeIn K cd2 (PySem.Str.ofString "_law_weights") = true)
    (k2 : PySem.W.keepIn K (.ref f2) = true)
    (a3 : PySem.W.nsIn K mainGlobals (PySem.Str.ofString "is_integer") = some (some (.ref f3)))
    (l3 : K.lookup f3 = some ⟨oc3, od3, .func (PySem.W.fnOf (PySem.Str.ofString "is_integer") (PySem.Str.ofString "is_integer") (defArgs s_is_integer) (defBody s_is_integer) (defScope s_is_integer) .none kV3 dc3 pm3 an3 cd3 ct3), sl3⟩)
    (c3 : PySem.W.codeIn K cd3 (PySem.Str.ofString "is_integer") = true)
    (k3 : PySem.W.keepIn K (.ref f3) = true)
    (a4 : PySem.W.nsIn K mainGlobals (PySem.Str.ofString "check_weights") = some (some (.ref f4)))
    (l4 : K.lookup f4 = some ⟨oc4, od4, .func (PySem.W.fnOf (PySem.Str.ofString "check_weights") (PySem.Str.ofString "check_weights") (defArgs s_check_weights) (defBody s_check_weights) (defScope s_check_weights) .none kV4 dc4 pm4 an4 cd4 ct4), sl4⟩)
    (c4 : PySem.W.codeIn K cd4 (PySem.Str.ofString "check_weights") = true)
    (k4 : PySem.W.keepIn K (.ref f4) = true)
    (a5 : PySem.W.nsIn K mainGlobals (PySem.Str.ofString "check_slack") = some (some (.ref f5)))
    (l5 : K.lookup f5 = some ⟨oc5, od5, .func (PySem.W.fnOf (PySem.Str.ofString "check_slack") (PySem.Str.ofString "check_slack") (defArgs s_check_slack) (defBody s_check_slack) (defScope s_check_slack) .none kV5 dc5 pm5 an5 cd5 ct5), sl5⟩)
    (c5 : PySem.W.codeIn K cd5 (PySem.Str.ofString "check_slack") = true)
    (k5 : PySem.W.keepIn K (.ref f5) = true)
    (a6 : PySem.W.nsIn K mainGlobals (PySem.Str.ofString "check_unit") = some (some (.ref f6)))
    (l6 : K.lookup f6 = some ⟨oc6, od6, .func (PySem.W.fnOf (PySem.Str.ofString "check_unit") (PySem.Str.ofString "check_unit") (defArgs s_check_unit) (defBody s_check_unit) (defScope s_check_unit) (.ref T6) kV6 dc6 pm6 an6 cd6 ct6), sl6⟩)
    (c6 : PySem.W.codeIn K cd6 (PySem.Str.ofString "check_unit") = true)
    (k6 : PySem.W.keepIn K (.ref f6) = true)
    (q6 : K.lookup T6 = some ⟨tc6, td6, .seq #[.str (PySem.Str.ofString "unit") tk6_0] tn6, ts6⟩)
    (a7 : PySem.W.nsIn K mainGlobals (PySem.Str.ofString "check_range") = some (some (.ref f7)))
    (l7 : K.lookup f7 = some ⟨oc7, od7, .func (PySem.W.fnOf (PySem.Str.ofString "check_range") (PySem.Str.ofString "check_range") (defArgs s_check_range) (defBody s_check_range) (defScope s_check_range) .none kV7 dc7 pm7 an7 cd7 ct7), sl7⟩)
    (c7 : PySem.W.codeIn K cd7 (PySem.Str.ofString "check_range") = true)
    (k7 : PySem.W.keepIn K (.ref f7) = true)
    (a8 : PySem.W.nsIn K mainGlobals (PySem.Str.ofString "nearest") = some (some (.ref f8)))
    (l8 : K.lookup f8 = some ⟨oc8, od8, .func (PySem.W.fnOf (PySem.Str.ofString "nearest") (PySem.Str.ofString "nearest") (defArgs s_nearest) (defBody s_nearest) (defScope s_nearest) .none kV8 dc8 pm8 an8 cd8 ct8), sl8⟩)
    (c8 : PySem.W.codeIn K cd8 (PySem.Str.ofString "nearest") = true)
    (k8 : PySem.W.keepIn K (.ref f8) = true)
    (a9 : PySem.W.nsIn K mainGlobals (PySem.Str.ofString "is_good") = some (some (.ref f9)))
    (l9 : K.lookup f9 = some ⟨oc9, od9, .func (PySem.W.fnOf (PySem.Str.ofString "is_good") (PySem.Str.ofString "is_good") (defArgs s_is_good) (defBody s_is_good) (defScope s_is_good) .none kV9 dc9 pm9 an9 cd9 ct9), sl9⟩)
    (c9 : PySem.W.codeIn K cd9 (PySem.Str.ofString "is_good") = true)
    (k9 : PySem.W.keepIn K (.ref f9) = true)
    (a10 : PySem.W.nsIn K mainGlobals (PySem.Str.ofString "good_units") = some (some (.ref f10)))
    (l10 : K.lookup f10 = some ⟨oc10, od10, .func (PySem.W.fnOf (PySem.Str.ofString "good_units") (PySem.Str.ofString "good_units") (defArgs s_good_units) (defBody s_good_units) (defScope s_good_units) .none kV10 dc10 pm10 an10 cd10 ct10), sl10⟩)
    (c10 : PySem.W.codeIn K cd10 (PySem.Str.ofString "good_units") = true)
    (k10 : PySem.W.keepIn K (.ref f10) = true)
    (a11 : PySem.W.nsIn K mainGlobals (PySem.Str.ofString "_law_divisors_hold") = some (some (.ref f11)))
    (l11 : K.lookup f11 = some ⟨oc11, od11, .func (PySem.W.fnOf (PySem.Str.ofString "_law_divisors_hold") (PySem.Str.ofString "_law_divisors_hold") (defArgs s__law_divisors_hold) (defBody s__law_divisors_hold) (defScope s__law_divisors_hold) .none kV11 dc11 pm11 an11 cd11 ct11), sl11⟩)
    (c11 : PySem.W.codeIn K cd11 (PySem.Str.ofString "_law_divisors_hold") = true)
    (k11 : PySem.W.keepIn K (.ref f11) = true)
    (a12 : PySem.W.nsIn K mainGlobals (PySem.Str.ofString "judge_unit") = some (some (.ref f12)))
    (l12 : K.lookup f12 = some ⟨oc12, od12, .func (PySem.W.fnOf (PySem.Str.ofString "judge_unit") (PySem.Str.ofString "judge_unit") (defArgs s_judge_unit) (defBody s_judge_unit) (defScope s_judge_unit) .none kV12 dc12 pm12 an12 cd12 ct12), sl12⟩)
    (c12 : PySem.W.codeIn K cd12 (PySem.Str.ofString "judge_unit") = true)
    (k12 : PySem.W.keepIn K (.ref f12) = true)
    (a13 : PySem.W.nsIn K mainGlobals (PySem.Str.ofString "off_weights") = some (some (.ref f13)))
    (l13 : K.lookup f13 = some ⟨oc13, od13, .func (PySem.W.fnOf (PySem.Str.ofString "off_weights") (PySem.Str.ofString "off_weights") (defArgs s_off_weights) (defBody s_off_weights) (defScope s_off_weights) .none kV13 dc13 pm13 an13 cd13 ct13), sl13⟩)
    (c13 : PySem.W.codeIn K cd13 (PySem.Str.ofString "off_weights") = true)
    (k13 : PySem.W.keepIn K (.ref f13) = true)
    (a14 : PySem.W.nsIn K mainGlobals (PySem.Str.ofString "accept_times") = some (some (.ref f14)))
    (l14 : K.lookup f14 = some ⟨oc14, od14, .func (PySem.W.fnOf (PySem.Str.ofString "accept_times") (PySem.Str.ofString "accept_times") (defArgs s_accept_times) (defBody s_accept_times) (defScope s_accept_times) .none kV14 dc14 pm14 an14 cd14 ct14), sl14⟩)
    (c14 : PySem.W.codeIn K cd14 (PySem.Str.ofString "accept_times") = true)
    (k14 : PySem.W.keepIn K (.ref f14) = true)
    (a15 : PySem.W.nsIn K mainGlobals (PySem.Str.ofString "closest_unit") = some (some (.ref f15)))
    (l15 : K.lookup f15 = some ⟨oc15, od15, .func (PySem.W.fnOf (PySem.Str.ofString "closest_unit") (PySem.Str.ofString "closest_unit") (defArgs s_closest_unit) (defBody s_closest_unit) (defScope s_closest_unit) .none kV15 dc15 pm15 an15 cd15 ct15), sl15⟩)
    (c15 : PySem.W.codeIn K cd15 (PySem.Str.ofString "closest_unit") = true)
    (k15 : PySem.W.keepIn K (.ref f15) = true)
    (a16 : PySem.W.nsIn K mainGlobals (PySem.Str.ofString "_law_stretched_holds") = some (some (.ref f16)))
    (l16 : K.lookup f16 = some ⟨oc16, od16, .func (PySem.W.fnOf (PySem.Str.ofString "_law_stretched_holds") (PySem.Str.ofString "_law_stretched_holds") (defArgs s__law_stretched_holds) (defBody s__law_stretched_holds) (defScope s__law_stretched_holds) .none kV16 dc16 pm16 an16 cd16 ct16), sl16⟩)
    (c16 : PySem.W.codeIn K cd16 (PySem.Str.ofString "_law_stretched_holds") = true)
    (k16 : PySem.W.keepIn K (.ref f16) = true)
    (a17 : PySem.W.nsIn K mainGlobals (PySem.Str.ofString "far") = some (some (.ref f17)))
    (l17 : K.lookup f17 = some ⟨oc17, od17, .func (PySem.W.fnOf (PySem.Str.ofString "far") (PySem.Str.ofString "far") (defArgs s_far) (defBody s_far) (defScope s_far) .none kV17 dc17 pm17 an17 cd17 ct17), sl17⟩)
    (c17 : PySem.W.codeIn K cd17 (PySem.Str.ofString "far") = true)
    (k17 : PySem.W.keepIn K (.ref f17) = true)
    (a18 : PySem.W.nsIn K mainGlobals (PySem.Str.ofString "rows_against") = some (some (.ref f18)))
    (l18 : K.lookup f18 = some ⟨oc18, od18, .func (PySem.W.fnOf (PySem.Str.ofString "rows_against") (PySem.Str.ofString "rows_against") (defArgs s_rows_against) (defBody s_rows_against) (defScope s_rows_against) .none kV18 dc18 pm18 an18 cd18 ct18), sl18⟩)
    (c18 : PySem.W.codeIn K cd18 (PySem.Str.ofString "rows_against") = true)
    (k18 : PySem.W.keepIn K (.ref f18) = true)
    (a19 : PySem.W.nsIn K mainGlobals (PySem.Str.ofString "greatest_unit") = some (some (.ref f19)))
    (l19 : K.lookup f19 = some ⟨oc19, od19, .func (PySem.W.fnOf (PySem.Str.ofString "greatest_unit") (PySem.Str.ofString "greatest_unit") (defArgs s_greatest_unit) (defBody s_greatest_unit) (defScope s_greatest_unit) .none kV19 dc19 pm19 an19 cd19 ct19), sl19⟩)
    (c19 : PySem.W.codeIn K cd19 (PySem.Str.ofString "greatest_unit") = true)
    (k19 : PySem.W.keepIn K (.ref f19) = true)
    (a20 : PySem.W.nsIn K mainGlobals (PySem.Str.ofString "accept_none") = some (some (.ref f20)))
    (l20 : K.lookup f20 = some ⟨oc20, od20, .func (PySem.W.fnOf (PySem.Str.ofString "accept_none") (PySem.Str.ofString "accept_none") (defArgs s_accept_none) (defBody s_accept_none) (defScope s_accept_none) .none kV20 dc20 pm20 an20 cd20 ct20), sl20⟩)
    (c20 : PySem.W.codeIn K cd20 (PySem.Str.ofString "accept_none") = true)
    (k20 : PySem.W.keepIn K (.ref f20) = true)
    (a21 : PySem.W.nsIn K mainGlobals (PySem.Str.ofString "_law_closest_holds") = some (some (.ref f21)))
    (l21 : K.lookup f21 = some ⟨oc21, od21, .func (PySem.W.fnOf (PySem.Str.ofString "_law_closest_holds") (PySem.Str.ofString "_law_closest_holds") (defArgs s__law_closest_holds) (defBody s__law_closest_holds) (defScope s__law_closest_holds) .none kV21 dc21 pm21 an21 cd21 ct21), sl21⟩)
    (c21 : PySem.W.codeIn K cd21 (PySem.Str.ofString "_law_closest_holds") = true)
    (k21 : PySem.W.keepIn K (.ref f21) = true)
    (a22 : PySem.W.nsIn K mainGlobals (PySem.Str.ofString "common_unit") = some (some (.ref f22)))
    (l22 : K.lookup f22 = some ⟨oc22, od22, .func (PySem.W.fnOf (PySem.Str.ofString "common_unit") (PySem.Str.ofString "common_unit") (defArgs s_common_unit) (defBody s_common_unit) (defScope s_common_unit) .none kV22 dc22 pm22 an22 cd22 ct22), sl22⟩)
    (c22 : PySem.W.codeIn K cd22 (PySem.Str.ofString "common_unit") = true)
    (k22 : PySem.W.keepIn K (.ref f22) = true)
    (a23 : PySem.W.nsIn K mainGlobals (PySem.Str.ofString "_law_same") = some (some (.ref f23)))
    (l23 : K.lookup f23 = some ⟨oc23, od23, .func (PySem.W.fnOf (PySem.Str.ofString "_law_same") (PySem.Str.ofString "_law_same") (defArgs s__law_same) (defBody s__law_same) (defScope s__law_same) .none kV23 dc23 pm23 an23 cd23 ct23), sl23⟩)
    (c23 : PySem.W.codeIn K cd23 (PySem.Str.ofString "_law_same") = true)
    (k23 : PySem.W.keepIn K (.ref f23) = true)
    (a24 : PySem.W.nsIn K mainGlobals (PySem.Str.ofString "_law_heaps_hold") = some (some (.ref f24)))
    (l24 : K.lookup f24 = some ⟨oc24, od24, .func (PySem.W.fnOf (PySem.Str.ofString "_law_heaps_hold") (PySem.Str.ofString "_law_heaps_hold") (defArgs s__law_heaps_hold) (defBody s__law_heaps_hold) (defScope s__law_heaps_hold) .none kV24 dc24 pm24 an24 cd24 ct24), sl24⟩)
    (c24 : PySem.W.codeIn K cd24 (PySem.Str.ofString "_law_heaps_hold") = true)
    (k24 : PySem.W.keepIn K (.ref f24) = true)
    (a25 : PySem.W.nsIn K mainGlobals (PySem.Str.ofString "law") = some (some (.ref f25)))
    (l25 : K.lookup f25 = some ⟨oc25, od25, .func (PySem.W.fnOf (PySem.Str.ofString "law") (PySem.Str.ofString "law") (defArgs s_law) (defBody s_law) (defScope s_law) .none kV25 dc25 pm25 an25 cd25 ct25), sl25⟩)
    (c25 : PySem.W.codeIn K cd25 (PySem.Str.ofString "law") = true)
    (k25 : PySem.W.keepIn K (.ref f25) = true)
    (zb_abs : PySem.W.nsIn K mainGlobals (PySem.Str.ofString "abs") = some none)
    (zb_all : PySem.W.nsIn K mainGlobals (PySem.Str.ofString "all") = some none)
    (zb_bool : PySem.W.nsIn K mainGlobals (PySem.Str.ofString "bool") = some none)
    (zb_enumerate : PySem.W.nsIn K mainGlobals (PySem.Str.ofString "enumerate") = some none)
    (zb_int : PySem.W.nsIn K mainGlobals (PySem.Str.ofString "int") = some none)
    (zb_isinstance : PySem.W.nsIn K mainGlobals (PySem.Str.ofString "isinstance") = some none)
    (zb_len : PySem.W.nsIn K mainGlobals (PySem.Str.ofString "len") = some none)
    (zb_list : PySem.W.nsIn K mainGlobals (PySem.Str.ofString "list") = some none)
    (zb_max : PySem.W.nsIn K mainGlobals (PySem.Str.ofString "max") = some none)
    (zb_min : PySem.W.nsIn K mainGlobals (PySem.Str.ofString "min") = some none)
    (zb_range : PySem.W.nsIn K mainGlobals (PySem.Str.ofString "range") = some none)
    (zb_repr : PySem.W.nsIn K mainGlobals (PySem.Str.ofString "repr") = some none)
    (zb_tuple : PySem.W.nsIn K mainGlobals (PySem.Str.ofString "tuple") = some none)
    (zb_zip : PySem.W.nsIn K mainGlobals (PySem.Str.ofString "zip") = some none)
    (zk_MAX_COINS : PySem.W.nsIn K mainGlobals (PySem.Str.ofString "MAX_COINS") = some (some (.int 60 tz_MAX_COINS)))
    (zk_MAX_LOOKED : PySem.W.nsIn K mainGlobals (PySem.Str.ofString "MAX_LOOKED") = some (some (.int 20000 tz_MAX_LOOKED)))
    (zk_MAX_UNIT : PySem.W.nsIn K mainGlobals (PySem.Str.ofString "MAX_UNIT") = some (some (.int 100000 tz_MAX_UNIT)))
    : ∃ fd : FuncData, (∀ (s : Shared) (v : Value), BindsTo s fd ⟨[v], []⟩ [(PySem.Str.ofString "script", v)]) ∧ ∀ base : Heap, K.In base → base.Ns mainGlobals mg → FnG l.prog w K mg base 7 fa fd [PySem.Str.ofString "script"] (spF K g_law 1 4) := by
  have e := hfa.symm.trans (PySem.W.mg_of X G a25)
  cases e
  have T : Top K mg := {
    d__law_start := ⟨_, _, ⟨⟨_, _, .none, _, _, _, _, _, _, _, rfl, l0, c0, .inl ⟨rfl, rfl⟩, .inl rfl⟩, k0⟩, PySem.W.mg_of X G a0⟩
    d__law_draw := ⟨_, _, ⟨⟨_, _, .none, _, _, _, _, _, _, _, rfl, l1, c1, .inl ⟨rfl, rfl⟩, .inl rfl⟩, k1⟩, PySem.W.mg_of X G a1⟩
    d__law_weights := ⟨_, _, ⟨⟨_, _, .none, _, _, _, _, _, _, _, rfl, l2, c2, .inl ⟨rfl, rfl⟩, .inl rfl⟩, k2⟩, PySem.W.mg_of X G a2⟩
    d_is_integer := ⟨_, _, ⟨⟨_, _, .none, _, _, _, _, _, _, _, rfl, l3, c3, .inl ⟨rfl, rfl⟩, .inl rfl⟩, k3⟩, PySem.W.mg_of X G a3⟩
    d_check_weights := ⟨_, _, ⟨⟨_, _, .none, _, _, _, _, _, _, _, rfl, l4, c4, .inl ⟨rfl, rfl⟩, .inl rfl⟩, k4⟩, PySem.W.mg_of X G a4⟩
    d_check_slack := ⟨_, _, ⟨⟨_, _, .none, _, _, _, _, _, _, _, rfl, l5, c5, .inl ⟨rfl, rfl⟩, .inl rfl⟩, k5⟩, PySem.W.mg_of X G a5⟩
    d_check_unit := ⟨_, _, ⟨⟨_, _, (.ref T6), _, _, _, _, _, _, _, rfl, l6, c6, .inr ⟨by simp, T6, _, [.str (PySem.Str.ofString "unit") tk6_0], tn6, rfl, q6, rfl, (.cons ⟨_, rfl⟩ .nil)⟩, .inl rfl⟩, k6⟩, PySem.W.mg_of X G a6⟩
    d_check_range := ⟨_, _, ⟨⟨_, _, .none, _, _, _, _, _, _, _, rfl, l7, c7, .inl ⟨rfl, rfl⟩, .inl rfl⟩, k7⟩, PySem.W.mg_of X G a7⟩
    d_nearest := ⟨_, _, ⟨⟨_, _, .none, _, _, _, _, _, _, _, rfl, l8, c8, .inl ⟨rfl, rfl⟩, .inl rfl⟩, k8⟩, PySem.W.mg_of X G a8⟩
    d_is_good := ⟨_, _, ⟨⟨_, _, .none, _, _, _, _, _, _, _, rfl, l9, c9, .inl ⟨rfl, rfl⟩, .inl rfl⟩, k9⟩, PySem.W.mg_of X G a9⟩
    d_good_units := ⟨_, _, ⟨⟨_, _, .none, _, _, _, _, _, _, _, rfl, l10, c10, .inl ⟨rfl, rfl⟩, .inl rfl⟩, k10⟩, PySem.W.mg_of X G a10⟩
    d__law_divisors_hold := ⟨_, _, ⟨⟨_, _, .none, _, _, _, _, _, _, _, rfl, l11, c11, .inl ⟨rfl, rfl⟩, .inl rfl⟩, k11⟩, PySem.W.mg_of X G a11⟩
    d_judge_unit := ⟨_, _, ⟨⟨_, _, .none, _, _, _, _, _, _, _, rfl, l12, c12, .inl ⟨rfl, rfl⟩, .inl rfl⟩, k12⟩, PySem.W.mg_of X G a12⟩
    d_off_weights := ⟨_, _, ⟨⟨_, _, .none, _, _, _, _, _, _, _, rfl, l13, c13, .inl ⟨rfl, rfl⟩, .inl rfl⟩, k13⟩, PySem.W.mg_of X G a13⟩
    d_accept_times := ⟨_, _, ⟨⟨_, _, .none, _, _, _, _, _, _, _, rfl, l14, c14, .inl ⟨rfl, rfl⟩, .inl rfl⟩, k14⟩, PySem.W.mg_of X G a14⟩
    d_closest_unit := ⟨_, _, ⟨⟨_, _, .none, _, _, _, _, _, _, _, rfl, l15, c15, .inl ⟨rfl, rfl⟩, .inl rfl⟩, k15⟩, PySem.W.mg_of X G a15⟩
    d__law_stretched_holds := ⟨_, _, ⟨⟨_, _, .none, _, _, _, _, _, _, _, rfl, l16, c16, .inl ⟨rfl, rfl⟩, .inl rfl⟩, k16⟩, PySem.W.mg_of X G a16⟩
    d_far := ⟨_, _, ⟨⟨_, _, .none, _, _, _, _, _, _, _, rfl, l17, c17, .inl ⟨rfl, rfl⟩, .inl rfl⟩, k17⟩, PySem.W.mg_of X G a17⟩
    d_rows_against := ⟨_, _, ⟨⟨_, _, .none, _, _, _, _, _, _, _, rfl, l18, c18, .inl ⟨rfl, rfl⟩, .inl rfl⟩, k18⟩, PySem.W.mg_of X G a18⟩
    d_greatest_unit := ⟨_, _, ⟨⟨_, _, .none, _, _, _, _, _, _, _, rfl, l19, c19, .inl ⟨rfl, rfl⟩, .inl rfl⟩, k19⟩, PySem.W.mg_of X G a19⟩
    d_accept_none := ⟨_, _, ⟨⟨_, _, .none, _, _, _, _, _, _, _, rfl, l20, c20, .inl ⟨rfl, rfl⟩, .inl rfl⟩, k20⟩, PySem.W.mg_of X G a20⟩
    d__law_closest_holds := ⟨_, _, ⟨⟨_, _, .none, _, _, _, _, _, _, _, rfl, l21, c21, .inl ⟨rfl, rfl⟩, .inl rfl⟩, k21⟩, PySem.W.mg_of X G a21⟩
    d_common_unit := ⟨_, _, ⟨⟨_, _, .none, _, _, _, _, _, _, _, rfl, l22, c22, .inl ⟨rfl, rfl⟩, .inl rfl⟩, k22⟩, PySem.W.mg_of X G a22⟩
    d__law_same := ⟨_, _, ⟨⟨_, _, .none, _, _, _, _, _, _, _, rfl, l23, c23, .inl ⟨rfl, rfl⟩, .inl rfl⟩, k23⟩, PySem.W.mg_of X G a23⟩
    d__law_heaps_hold := ⟨_, _, ⟨⟨_, _, .none, _, _, _, _, _, _, _, rfl, l24, c24, .inl ⟨rfl, rfl⟩, .inl rfl⟩, k24⟩, PySem.W.mg_of X G a24⟩
    d_law := ⟨_, _, ⟨⟨_, _, .none, _, _, _, _, _, _, _, rfl, l25, c25, .inl ⟨rfl, rfl⟩, .inl rfl⟩, k25⟩, PySem.W.mg_of X G a25⟩
    b_abs := PySem.W.mg_none_of X G zb_abs
    b_all := PySem.W.mg_none_of X G zb_all
    b_bool := PySem.W.mg_none_of X G zb_bool
    b_enumerate := PySem.W.mg_none_of X G zb_enumerate
    b_int := PySem.W.mg_none_of X G zb_int
    b_isinstance := PySem.W.mg_none_of X G zb_isinstance
    b_len := PySem.W.mg_none_of X G zb_len
    b_list := PySem.W.mg_none_of X G zb_list
    b_max := PySem.W.mg_none_of X G zb_max
    b_min := PySem.W.mg_none_of X G zb_min
    b_range := PySem.W.mg_none_of X G zb_range
    b_repr := PySem.W.mg_none_of X G zb_repr
    b_tuple := PySem.W.mg_none_of X G zb_tuple
    b_zip := PySem.W.mg_none_of X G zb_zip
    k_MAX_COINS := ⟨_, PySem.W.mg_of X G zk_MAX_COINS⟩
    k_MAX_LOOKED := ⟨_, PySem.W.mg_of X G zk_MAX_LOOKED⟩
    k_MAX_UNIT := ⟨_, PySem.W.mg_of X G zk_MAX_UNIT⟩
  }
  obtain ⟨f, fd, D⟩ := T.d_law
  have e2 := hfa.symm.trans D.mgf
  cases e2
  exact ⟨fd, fun s v => D.fn.bindsA (ps := [PySem.Str.ofString "script"]) (fun _ _ _ _ _ _ us hl => match us, hl with | [_], _ => rfl) s [v] rfl, fun base _ _ => f_law T D⟩
end K28
set_option Elab.async false
set_option linter.all false
set_option maxRecDepth 100000
set_option maxHeartbeats 4000000
/-! P28a: k28, what the program's own defs answer. -/
namespace K28
open PySem PySem.Spec L2 L2.FL

abbrev T (ns : List Int) : PyData := .tuple (ns.map .int)
structure Ws (ws : List Int) : Prop where
  ne : 1 ≤ ws.length
  len : ws.length ≤ 60
  b : ∀ w ∈ ws, 1 ≤ w ∧ w ≤ 100000
theorem Ws.nonil {ws : List Int} (h : Ws ws) : ws ≠ [] := fun e => by
  subst e
  exact absurd h.ne (by decide)
theorem ev_is_integer (n : Int) : fcall g_is_integer 0 [.d (.int n)] = some (.bool true, [.d (.int n)]) := by
  unfold fcall
  simp [g_is_integer]
theorem ev_check_slack {s : Int} (h : 0 ≤ s) (h2 : s ≤ 100000) : fcall g_check_slack 0 [.d (.int s)] = some (.none, [.d (.int s)]) := by
  unfold fcall
  simp [g_check_slack, ev_is_integer, h, h2]
theorem ev_check_unit {s : Int} {x : PyData} (h : 1 ≤ s) (h2 : s ≤ 100000) : fcall g_check_unit 0 [.d (.int s), .d x] = some (.none, [.d (.int s), .d x]) := by
  unfold fcall
  simp [g_check_unit, ev_is_integer, h, h2]
theorem ev_check_weights {ws : List Int} (h : Ws ws) : fcall g_check_weights 1 [.d (T ws)] = some (.none, [.d (T ws)]) := by
  have h1 := h.ne
  have h2 := h.len
  have hc : fLc (fSeq (fVar 0)) (gSet 1) fYes (fAndT (fCall g_is_integer 1 0 [] (fCons (fVar 1) fNil)) (fChain oLe oLe (fC (.int 1)) (fVar 1) (fC (.int 100000)))) [1] [some (.d (T ws)), none] = some (ws.map fun _ => .bool true, [some (.d (T ws)), none]) := by
    rw [fLc_imap (ns := ws) (en1 := [some (.d (T ws)), none]) (fun _ => .bool true) (by simp) (by omega) rfl fun n hn => ?_]
    · simp
    · obtain ⟨b1, b2⟩ := h.b n hn
      simp [lcStep, open_, ev_is_integer, b1, b2]
  have ha : oAll [.list (ws.map fun _ => PyData.bool true)] = some (.bool true) := by
    have e : (ws.map fun _ => PyData.bool true) = (ws.map fun _ => true).map .bool := by simp
    rw [e, allB]
    simp
  have z1 : (1 : Int) ≤ (ws.length : Int) := by omega
  have z2 : (ws.length : Int) ≤ 60 := by omega
  unfold fcall
  simp [g_check_weights, hc, ha, z1, z2]
/-- the times that come nearest -/
def nr (w u : Int) : Int := if ab (w - (max 1 (w / u)) * u) ≤ ab (w - (max 1 (w / u) + 1) * u) then max 1 (w / u) else max 1 (w / u) + 1
theorem ev_nearest {w u : Int} (hu : 1 ≤ u) (hu2 : u ≤ 100000) : fcall g_nearest 1 [.d (.int w), .d (.int u)] = some (.int (nr w u), [.d (.int w), .d (.int u)]) := by
  have dv : oDiv (.int w) (.int u) = some (.int (w / u)) := o_div (by omega) (by omega)
  have ml : ∀ i, oMul (.int i) (.int u) = some (.int (i * u)) := fun i => o_mulR (by omega) (by omega)
  unfold nr fcall
  by_cases c : ab (w - (max 1 (w / u)) * u) ≤ ab (w - (max 1 (w / u) + 1) * u)
  · simp [g_nearest, dv, ml, open_, c]
  · simp [g_nearest, dv, ml, open_, c]
/-- how far from the nearest -/
def dist (w u : Int) : Int := ab (w - nr w u * u)
def good (ws : List Int) (s u : Int) : Bool := ws.all fun w => decide (dist w u ≤ s)
theorem ev_is_good {ws : List Int} {s u : Int} (h : Ws ws) (hu : 1 ≤ u) (hu2 : u ≤ 100000) : fcall g_is_good 1 [.d (T ws), .d (.int s), .d (.int u)] = some (.bool (good ws s u), [.d (T ws), .d (.int s), .d (.int u)]) := by
  have h2 := h.len
  have ml : ∀ i, oMul (.int i) (.int u) = some (.int (i * u)) := fun i => o_mulR (by omega) (by omega)
  have hc : fLc (fSeq (fVar 0)) (gSet 3) (fBool (f2 oGt (fB oAbs (fCons (f2 oSub (fVar 3) (f2 oMul (fCall g_nearest 2 1 [] (fCons (fVar 3) (fCons (fVar 2) fNil))) (fVar 2))) fNil)) (fVar 1))) (fVar 3) [3] [some (.d (T ws)), some (.d (.int s)), some (.d (.int u)), none] = some ((ws.filter fun w => decide (s < dist w u)).map .int, [some (.d (T ws)), some (.d (.int s)), some (.d (.int u)), none]) := by
    rw [fLc_ints (ns := ws) (en1 := [some (.d (T ws)), some (.d (.int s)), some (.d (.int u)), none]) (fun w => decide (s < dist w u)) .int (by simp) (by omega) rfl fun n hn => ?_]
    · simp
    · by_cases c : s < ab (n - nr n u * u)
      · simp [lcStep, open_, ev_nearest hu hu2, ml, dist, c]
      · simp [lcStep, open_, ev_nearest hu hu2, ml, dist, c]
  have e : ((ws.filter fun w => decide (s < dist w u)).map PyData.int).isEmpty = good ws s u := by
    rw [Bool.eq_iff_iff]
    simp [good, List.filter_eq_nil_iff]
  unfold fcall
  simp [g_is_good, hc, e]
theorem ev_check_range {ws : List Int} {s lo hi : Int} (h : Ws ws) (hs : 0 ≤ s) (hs2 : s ≤ 100000) (h1 : 1 ≤ lo) (h2 : lo ≤ hi) (h3 : hi ≤ 100000) (h4 : (hi - lo + 1) * ws.length ≤ 20000) :
    fcall g_check_range 0 [.d (T ws), .d (.int s), .d (.int lo), .d (.int hi)] = some (.none, [.d (T ws), .d (.int s), .d (.int lo), .d (.int hi)]) := by
  have hl := h.len
  have ml : ∀ i, oMul (.int i) (.int (ws.length : Int)) = some (.int (i * (ws.length : Int))) := fun i => o_mulR (by omega) (by omega)
  have z1 : ¬ hi < lo := by omega
  have z2 : ¬ 20000 < (hi - lo + 1) * (ws.length : Int) := by omega
  unfold fcall
  simp [g_check_range, ev_check_weights h, ev_check_slack hs hs2, ev_check_unit h1 (show lo ≤ 100000 by omega), ev_check_unit (show 1 ≤ hi by omega) h3, ml, z1, z2]
end K28
set_option Elab.async false
set_option linter.all false
set_option maxRecDepth 100000
set_option maxHeartbeats 4000000
/-! P28b: k28, the defs of units. -/
namespace K28
open PySem PySem.Spec L2 L2.FL

theorem ev_good_units {ws : List Int} {s lo hi : Int} (h : Ws ws) (hs : 0 ≤ s) (hs2 : s ≤ 100000) (h1 : 1 ≤ lo) (h2 : lo ≤ hi) (h3 : hi ≤ 100000) (h4 : (hi - lo + 1) * ws.length ≤ 20000) :
    fcall g_good_units 1 [.d (T ws), .d (.int s), .d (.int lo), .d (.int hi)] = some (T ((rng lo (hi + 1)).filter (good ws s)), [.d (T ws), .d (.int s), .d (.int lo), .d (.int hi)]) := by
  have hc : fLc (fRng2 (fVar 2) (f2 oAdd (fVar 3) (fC (.int 1)))) (gSet 4) (fTru (fCall g_is_good 3 1 [] (fCons (fVar 0) (fCons (fVar 1) (fCons (fVar 4) fNil))))) (fVar 4) [4] [some (.d (T ws)), some (.d (.int s)), some (.d (.int lo)), some (.d (.int hi)), none] =
      some (((rng lo (hi + 1)).filter (good ws s)).map .int, [some (.d (T ws)), some (.d (.int s)), some (.d (.int lo)), some (.d (.int hi)), none]) := by
    have z1 : RngOk lo ∧ RngOk (hi + 1) := ⟨rngIn (by omega) (by omega), rngIn (by omega) (by omega)⟩
    rw [fLc_ints (ns := rng lo (hi + 1)) (en1 := [some (.d (T ws)), some (.d (.int s)), some (.d (.int lo)), some (.d (.int hi)), none]) (good ws s) .int (by simp [z1, rngL_rng]) (by rw [rng_length]; omega) rfl fun n hn => ?_]
    · simp
    · obtain ⟨n1, n2⟩ := mem_rng.mp hn
      by_cases c : good ws s n = true
      · simp [lcStep, open_, ev_is_good h (show 1 ≤ n by omega) (show n ≤ 100000 by omega), c]
      · simp [lcStep, open_, ev_is_good h (show 1 ≤ n by omega) (show n ≤ 100000 by omega), c]
  unfold fcall
  simp [g_good_units, ev_check_range h hs hs2 h1 h2 h3 h4, hc]
/-! judge_unit -/
def offD (k : Int) (d : Int) : PyData := .tuple [.str (PySem.Str.ofString "off"), .int k, .int d]
def fitsD (ts : List Int) : PyData := .tuple [.str (PySem.Str.ofString "fits"), T ts]
def jd (s u : Int) : Nat → List Int → Option PyData
  | _, [] => none
  | k, w :: r => if s < dist w u then some (offD k (w - nr w u * u)) else jd s u (k + 1) r
def judge (ws : List Int) (s u : Int) : PyData := match jd s u 0 ws with
  | some y => y
  | none => fitsD (ws.map fun w => nr w u)
def offR (s u : Int) (x : PyData) : Option PyData := match x with
  | .tuple [.int i, .int w] => if s < dist w u then some (offD i (w - nr w u * u)) else none
  | _ => none
theorem jd_find (s u : Int) : ∀ (ws : List Int) (k : Nat), (enumD k (ws.map .int)).findSome? (offR s u) = jd s u k ws
  | [], k => rfl
  | w :: r, k => by
    rw [List.map_cons, enumD, List.findSome?_cons]
    by_cases c : s < dist w u
    · simp [offR, jd, c]
    · simp [offR, jd, c, jd_find s u r (k + 1)]
theorem mem_enumD {ws : List Int} {x : PyData} (h : x ∈ enumD 0 (ws.map .int)) : ∃ (i : Nat) (w : Int), x = .tuple [.int (i : Int), .int w] ∧ ws[i]? = some w := by
  obtain ⟨i, hi⟩ := List.mem_iff_getElem?.mp h
  rw [enumD_get] at hi
  obtain ⟨y, hy, rfl⟩ := Option.map_eq_some_iff.mp hi
  rw [List.getElem?_map] at hy
  obtain ⟨w, hw, rfl⟩ := Option.map_eq_some_iff.mp hy
  exact ⟨i, w, by simp, hw⟩
theorem atI_at {xs : List PyData} {i : Nat} {x : PyData} (h : xs[i]? = some x) : atI xs (i : Int) = some x := by
  have hl := (List.getElem?_eq_some_iff.mp h).1
  unfold atI ixN
  rw [if_pos (by omega), if_pos (by omega)]
  simpa using h
def O (o : Option SV) : Prop := o = none ∨ ∃ y, o = some (.d y)
theorem ev_judge_unit {ws : List Int} {s u : Int} (h : Ws ws) (hs : 0 ≤ s) (hs2 : s ≤ 100000) (hu : 1 ≤ u) (hu2 : u ≤ 100000) :
    fcall g_judge_unit 3 [.d (T ws), .d (.int s), .d (.int u)] = some (judge ws s u, [.d (T ws), .d (.int s), .d (.int u)]) := by
  have h2 := h.len
  have ml : ∀ i, oMul (.int i) (.int u) = some (.int (i * u)) := fun i => o_mulR (by omega) (by omega)
  have hc : fLc (fSeq (fVar 0)) (gSet 3) fYes (fCall g_nearest 2 1 [] (fCons (fVar 3) (fCons (fVar 2) fNil))) [3] [some (.d (T ws)), some (.d (.int s)), some (.d (.int u)), none, none, none] = some ((ws.map fun w => nr w u).map .int, [some (.d (T ws)), some (.d (.int s)), some (.d (.int u)), none, none, none]) := by
    rw [fLc_imap (ns := ws) (en1 := [some (.d (T ws)), some (.d (.int s)), some (.d (.int u)), none, none, none]) (fun w => .int (nr w u)) (by simp) (by omega) rfl fun n hn => ?_]
    · simp [Function.comp_def]
    · simp [lcStep, open_, ev_nearest hu hu2]
  obtain ⟨en', e1, a, b, e2⟩ := forL_spec (g := gTup' (gCons' (gSet 5) (gCons' (gSet 3) gNil'))) (b := sIf (fBool (f2 oGt (fB oAbs (fCons (f2 oSub (fVar 3) (f2 oMul (f2 oIx (fVar 4) (fVar 5)) (fVar 2))) fNil)) (fVar 1))) (sRet (fTup (fCons (fC (.str (PySem.Str.ofString "off"))) (fCons (fVar 5) (fCons (f2 oSub (fVar 3) (f2 oMul (f2 oIx (fVar 4) (fVar 5)) (fVar 2))) fNil))))) sNil)
    (fun en => ∃ a b, (O a ∧ O b) ∧ en = [some (.d (T ws)), some (.d (.int s)), some (.d (.int u)), a, some (.d (.list ((ws.map fun w => nr w u).map .int))), b]) (offR s u) (xs := enumD 0 (ws.map .int)) (en := [some (.d (T ws)), some (.d (.int s)), some (.d (.int u)), none, some (.d (.list ((ws.map fun w => nr w u).map .int))), none])
    (fun x hx en ⟨a, b, ⟨oa, ob⟩, he⟩ => by
      obtain ⟨i, w, rfl, hw⟩ := mem_enumD hx
      subst he
      have hat : atI ((ws.map fun w => nr w u).map PyData.int) (i : Int) = some (.int (nr w u)) := atI_at (by simp [hw])
      simp only [List.map_map] at hat
      refine ⟨[some (.d (T ws)), some (.d (.int s)), some (.d (.int u)), some (.d (.int w)), some (.d (.list ((ws.map fun w => nr w u).map .int))), some (.d (.int i))], ?_, some (.d (.int w)), some (.d (.int i)), ⟨.inr ⟨_, rfl⟩, .inr ⟨_, rfl⟩⟩, rfl⟩
      by_cases c : s < ab (w - nr w u * u)
      · rcases oa with rfl | ⟨_, rfl⟩ <;> rcases ob with rfl | ⟨_, rfl⟩ <;> simp [open_, offR, hat, ml, c, dist, offD]
      · rcases oa with rfl | ⟨_, rfl⟩ <;> rcases ob with rfl | ⟨_, rfl⟩ <;> simp [open_, offR, hat, ml, c, dist, offD]) ⟨none, none, ⟨.inl rfl, .inl rfl⟩, rfl⟩
  rw [jd_find] at e1
  unfold fcall judge
  cases hj : jd s u 0 ws with
  | some y =>
    rw [hj] at e1
    simp only [List.map_map] at e1
    simp [g_judge_unit, ev_check_weights h, ev_check_slack hs hs2, ev_check_unit hu hu2, hc, open_, e1]
  | none =>
    rw [hj] at e1
    rw [e2.2] at e1
    simp only [List.map_map] at e1
    simp [g_judge_unit, ev_check_weights h, ev_check_slack hs hs2, ev_check_unit hu hu2, hc, open_, e1, fitsD]
/-! off_weights -/
def ofs (s u : Int) : Nat → List Int → List Int
  | _, [] => []
  | k, w :: r => if s < dist w u then (k : Int) :: ofs s u (k + 1) r else ofs s u (k + 1) r
def ofR (s u : Int) (x : PyData) : Option PyData := match x with
  | .tuple [.int i, .int w] => if s < dist w u then some (.int i) else none
  | _ => none
theorem ofs_find (s u : Int) : ∀ (ws : List Int) (k : Nat), (enumD k (ws.map .int)).filterMap (ofR s u) = (ofs s u k ws).map .int
  | [], k => rfl
  | w :: r, k => by
    rw [List.map_cons, enumD, List.filterMap_cons]
    by_cases c : s < dist w u
    · simp [ofR, ofs, c, ofs_find s u r (k + 1)]
    · simp [ofR, ofs, c, ofs_find s u r (k + 1)]
theorem ev_off_weights {ws : List Int} {s u : Int} (h : Ws ws) (hs : 0 ≤ s) (hs2 : s ≤ 100000) (hu : 1 ≤ u) (hu2 : u ≤ 100000) :
    fcall g_off_weights 2 [.d (T ws), .d (.int s), .d (.int u)] = some (T (ofs s u 0 ws), [.d (T ws), .d (.int s), .d (.int u)]) := by
  have h2 := h.len
  have ml : ∀ i, oMul (.int i) (.int u) = some (.int (i * u)) := fun i => o_mulR (by omega) (by omega)
  have hc : fLc (fEnum (fVar 0)) (gTup' (gCons' (gSet 3) (gCons' (gSet 4) gNil'))) (fBool (f2 oGt (fB oAbs (fCons (f2 oSub (fVar 4) (f2 oMul (fCall g_nearest 2 1 [] (fCons (fVar 4) (fCons (fVar 2) fNil))) (fVar 2))) fNil)) (fVar 1))) (fVar 3) [3, 4] [some (.d (T ws)), some (.d (.int s)), some (.d (.int u)), none, none] =
      some ((ofs s u 0 ws).map .int, [some (.d (T ws)), some (.d (.int s)), some (.d (.int u)), none, none]) := by
    rw [fLc_pure (xs := enumD 0 (ws.map .int)) (en1 := [some (.d (T ws)), some (.d (.int s)), some (.d (.int u)), none, none]) (ofR s u) (by simp) (by rw [enumD_length]; simp; omega) rfl fun x hx => ?_]
    · simp [ofs_find]
    · obtain ⟨i, w, rfl, hw⟩ := mem_enumD hx
      by_cases c : s < ab (w - nr w u * u)
      · simp [lcStep, open_, ev_nearest hu hu2, ml, ofR, dist, c]
      · simp [lcStep, open_, ev_nearest hu hu2, ml, ofR, dist, c]
  unfold fcall
  simp [g_off_weights, ev_check_weights h, ev_check_slack hs hs2, ev_check_unit hu hu2, hc]
/-! closest_unit -/
def md (ws : List Int) (u : Int) : Int := mx (ws.map fun w => dist w u)
theorem ev_closest_unit {ws : List Int} {lo hi : Int} (h : Ws ws) (h1 : 1 ≤ lo) (h2 : lo ≤ hi) (h3 : hi ≤ 100000) (h4 : (hi - lo + 1) * ws.length ≤ 20000) :
    ∃ u ∈ rng lo (hi + 1), (∀ v ∈ rng lo (hi + 1), md ws u < md ws v ∨ (md ws u = md ws v ∧ v ≤ u)) ∧ fcall g_closest_unit 4 [.d (T ws), .d (.int lo), .d (.int hi)] = some (.tuple [.int (md ws u), .int u], [.d (T ws), .d (.int lo), .d (.int hi)]) := by
  have hl := h.len
  have inner : ∀ u : Int, 1 ≤ u → u ≤ 100000 → fLc (fSeq (fVar 0)) (gSet 4) fYes (fB oAbs (fCons (f2 oSub (fVar 4) (f2 oMul (fCall g_nearest 2 1 [] (fCons (fVar 4) (fCons (fVar 3) fNil))) (fVar 3))) fNil)) [4] [some (.d (T ws)), some (.d (.int lo)), some (.d (.int hi)), some (.d (.int u)), none, none, none] =
      some ((ws.map fun w => dist w u).map .int, [some (.d (T ws)), some (.d (.int lo)), some (.d (.int hi)), some (.d (.int u)), none, none, none]) := fun u hu hu2 => by
    have ml : ∀ i, oMul (.int i) (.int u) = some (.int (i * u)) := fun i => o_mulR (by omega) (by omega)
    rw [fLc_imap (ns := ws) (en1 := [some (.d (T ws)), some (.d (.int lo)), some (.d (.int hi)), some (.d (.int u)), none, none, none]) (fun w => .int (dist w u)) (by simp) (by omega) rfl fun n hn => ?_]
    · simp [Function.comp_def]
    · simp [lcStep, open_, ev_nearest hu hu2, ml, dist]
  have hc : fLc (fRng2 (fVar 1) (f2 oAdd (fVar 2) (fC (.int 1)))) (gSet 3) fYes (fTup (fCons (fB oMax (fCons (fOfL (fLc (fSeq (fVar 0)) (gSet 4) fYes (fB oAbs (fCons (f2 oSub (fVar 4) (f2 oMul (fCall g_nearest 2 1 [] (fCons (fVar 4) (fCons (fVar 3) fNil))) (fVar 3))) fNil)) [4])) fNil)) (fCons (f1 oNeg (fVar 3)) fNil))) [3] [some (.d (T ws)), some (.d (.int lo)), some (.d (.int hi)), none, none, none, none] =
      some (((rng lo (hi + 1)).map fun u => (md ws u, -u)).map pr, [some (.d (T ws)), some (.d (.int lo)), some (.d (.int hi)), none, none, none, none]) := by
    have z1 : RngOk lo ∧ RngOk (hi + 1) := ⟨rngIn (by omega) (by omega), rngIn (by omega) (by omega)⟩
    rw [fLc_imap (ns := rng lo (hi + 1)) (en1 := [some (.d (T ws)), some (.d (.int lo)), some (.d (.int hi)), none, none, none, none]) (fun u => pr (md ws u, -u)) (by simp [z1, rngL_rng]) (by rw [rng_length]; omega) rfl fun n hn => ?_]
    · simp [Function.comp_def]
    · obtain ⟨n1, n2⟩ := mem_rng.mp hn
      have i1 := inner n (by omega) (by omega)
      have mxe : oMax [.list ((ws.map fun w => dist w n).map .int)] = some (.int (md ws n)) := maxL (by simpa using h.nonil)
      simp only [List.map_map] at i1 mxe
      simp [lcStep, open_, i1, mxe, pr]
  have hne : ((rng lo (hi + 1)).map fun u => (md ws u, -u)) ≠ [] := fun e => by
    have : (rng lo (hi + 1)).length = 0 := by simpa using congrArg List.length e
    rw [rng_length] at this
    omega
  obtain ⟨q, hq, e1, e2⟩ := minP hne
  obtain ⟨u, hu, rfl⟩ := List.mem_map.mp hq
  refine ⟨u, hu, fun v hv => ?_, ?_⟩
  · have := e2 _ (List.mem_map.mpr ⟨v, hv, rfl⟩)
    simp only at this
    omega
  · unfold fcall
    simp only [List.map_map] at hc e1
    simp [g_closest_unit, ev_check_range h (show (0 : Int) ≤ 0 by decide) (by decide) h1 h2 h3 h4, hc, open_, e1, pr]
end K28
set_option Elab.async false
set_option linter.all false
set_option maxRecDepth 100000
set_option maxHeartbeats 4000000
/-! P28c: k28, distances; rows of units that do not fit. -/
namespace K28
open PySem PySem.Spec L2 L2.FL

/-! ### how far -/
theorem div_facts {w u : Int} (hu : 1 ≤ u) : (w / u) * u ≤ w ∧ w < (w / u) * u + u := by
  have h1 := Int.ediv_mul_le w (show u ≠ 0 by omega)
  have h2 := Int.lt_ediv_add_one_mul_self w (show 0 < u by omega)
  rw [Int.add_mul, Int.one_mul] at h2
  exact ⟨h1, h2⟩
theorem dist_cases {w u : Int} (hw : 1 ≤ w) (hu : 1 ≤ u) : 0 ≤ w / u ∧ (w / u) * u ≤ w ∧ w < (w / u) * u + u ∧
    ((w / u = 0 ∧ dist w u = u - w ∧ nr w u = 1) ∨ (1 ≤ w / u ∧ ((dist w u = w - (w / u) * u ∧ nr w u = w / u ∧ w - (w / u) * u ≤ (w / u) * u + u - w) ∨ (dist w u = (w / u) * u + u - w ∧ nr w u = w / u + 1 ∧ (w / u) * u + u - w < w - (w / u) * u)))) := by
  obtain ⟨h1, h2⟩ := div_facts (w := w) hu
  have h0 : 0 ≤ w / u := Int.ediv_nonneg (by omega) (by omega)
  refine ⟨h0, h1, h2, ?_⟩
  by_cases z : w / u = 0
  · refine .inl ⟨z, ?_⟩
    rw [z] at h1 h2
    have m1 : max 1 (w / u) = 1 := by rw [z]; rfl
    unfold dist nr
    rw [m1]
    have a1 := ab_of (w - 1 * u)
    have a2 := ab_of (w - (1 + 1) * u)
    have c : ab (w - 1 * u) ≤ ab (w - (1 + 1) * u) := by omega
    rw [if_pos c]
    omega
  · refine .inr ⟨by omega, ?_⟩
    have m1 : max 1 (w / u) = w / u := Int.max_eq_right (by omega)
    unfold dist nr
    rw [m1]
    generalize w / u = t at *
    have e : (t + 1) * u = t * u + u := by rw [Int.add_mul, Int.one_mul]
    rw [e]
    have a1 := ab_of (w - t * u)
    have a2 := ab_of (w - (t * u + u))
    by_cases c : ab (w - t * u) ≤ ab (w - (t * u + u))
    · rw [if_pos c]
      generalize t * u = p at *
      omega
    · rw [if_neg c, e]
      generalize t * u = p at *
      omega
theorem nr_pos {w u : Int} (hw : 1 ≤ w) (hu : 1 ≤ u) : 1 ≤ nr w u := by
  obtain ⟨_, _, _, h⟩ := dist_cases hw hu
  omega
theorem dist_nonneg (w u : Int) : 0 ≤ dist w u := ab_nonneg _
/-- farther than s, by both neighbours -/
theorem dist_gt {w u s : Int} (hw : 1 ≤ w) (hu : 1 ≤ u) (hs : 0 ≤ s) : s < dist w u ↔ ((1 ≤ w / u → s < w - (w / u) * u) ∧ s < (w / u) * u + u - w) := by
  obtain ⟨h0, h1, h2, h⟩ := dist_cases hw hu
  rcases h with ⟨z, e, _⟩ | ⟨z, ⟨e, _, h⟩ | ⟨e, _, h⟩⟩
  · rw [z] at h1 h2 ⊢
    omega
  · generalize (w / u) * u = p at *
    omega
  · generalize (w / u) * u = p at *
    omega
/-- no times come nearer -/
theorem dist_le {w u t : Int} (hw : 1 ≤ w) (hu : 1 ≤ u) (ht : 1 ≤ t) : dist w u ≤ ab (w - t * u) := by
  obtain ⟨h0, h1, h2, h⟩ := dist_cases hw hu
  have a := ab_of (w - t * u)
  by_cases q : t ≤ w / u
  · have m := Int.mul_le_mul_of_nonneg_right q (show 0 ≤ u by omega)
    generalize t * u = y at *
    generalize (w / u) * u = p at *
    omega
  · have m := Int.mul_le_mul_of_nonneg_right (show w / u + 1 ≤ t by omega) (show 0 ≤ u by omega)
    rw [Int.add_mul, Int.one_mul] at m
    generalize t * u = y at *
    rcases h with ⟨z, e, _⟩ | ⟨z, h⟩
    · rw [z] at h1 h2 m
      omega
    · generalize (w / u) * u = p at *
      omega
theorem dist_bound {w u : Int} (hw : 1 ≤ w) (hw2 : w ≤ 100000) (hu : 1 ≤ u) (hu2 : u ≤ 100000) : dist w u ≤ 100000 := by
  have h := dist_le hw hu (show (1 : Int) ≤ 1 by decide)
  have a := ab_of (w - 1 * u)
  omega
/-! ### far -/
def fr (w s u : Int) : Int := if dist w u ≤ s then u - 1 else if w / u = 0 then 100000 else (w - s - 1) / (w / u)
theorem ev_far {w s u : Int} (hw : 1 ≤ w) (hw2 : w ≤ 100000) (hu : 1 ≤ u) (hu2 : u ≤ 100000) : fcall g_far 1 [.d (.int w), .d (.int s), .d (.int u)] = some (.int (fr w s u), [.d (.int w), .d (.int s), .d (.int u)]) := by
  have ml : ∀ i, oMul (.int i) (.int u) = some (.int (i * u)) := fun i => o_mulR (by omega) (by omega)
  have dv : ∀ i, oDiv (.int i) (.int u) = some (.int (i / u)) := fun i => o_div (by omega) (by omega)
  have hle : w / u ≤ w := Int.ediv_le_self u (by omega)
  unfold fcall fr
  by_cases c : ab (w - nr w u * u) ≤ s
  · simp [g_far, ev_nearest hu hu2, ml, dist, c]
  · by_cases z : w / u = 0
    · simp [g_far, ev_nearest hu hu2, ml, dv, dist, c, z, open_]
    · have h0 : 0 ≤ w / u := Int.ediv_nonneg (by omega) (by omega)
      have dv2 : ∀ i, oDiv (.int i) (.int (w / u)) = some (.int (i / (w / u))) := fun i => o_div (by omega) (by omega)
      simp [g_far, ev_nearest hu hu2, ml, dv, dist, c, z, dv2, open_]
theorem fr_ge {w s u : Int} (hw : 1 ≤ w) (hu : 1 ≤ u) (hu2 : u ≤ 100000) (hs : 0 ≤ s) (h : s < dist w u) : u ≤ fr w s u := by
  unfold fr
  rw [if_neg (by omega)]
  by_cases z : w / u = 0
  · rw [if_pos z]; exact hu2
  · rw [if_neg z]
    have h0 : 0 ≤ w / u := Int.ediv_nonneg (by omega) (by omega)
    have g := ((dist_gt hw hu hs).mp h).1 (by omega)
    refine Int.le_ediv_of_mul_le (by omega) ?_
    rw [Int.mul_comm]
    omega
/-- all units up to far are too far -/
theorem fr_bad {w s u v : Int} (hw : 1 ≤ w) (hu : 1 ≤ u) (hs : 0 ≤ s) (h : s < dist w u) (hv : u ≤ v) (hv2 : v ≤ fr w s u) : w / v = w / u ∧ s < dist w v := by
  obtain ⟨g1, g2⟩ := (dist_gt hw hu hs).mp h
  have h0 : 0 ≤ w / u := Int.ediv_nonneg (by omega) (by omega)
  have hv1 : 1 ≤ v := by omega
  have key : (1 ≤ w / u → (w / u) * v ≤ w - s - 1) := fun z => by
    unfold fr at hv2
    rw [if_neg (by omega), if_neg (by omega)] at hv2
    have := Int.mul_le_of_le_ediv (show 0 < w / u by omega) hv2
    rw [Int.mul_comm] at this
    exact this
  have m2 := Int.mul_le_mul_of_nonneg_left hv (show 0 ≤ w / u + 1 by omega)
  have e1 : (w / u + 1) * u = (w / u) * u + u := by rw [Int.add_mul, Int.one_mul]
  have e2 : (w / u + 1) * v = (w / u) * v + v := by rw [Int.add_mul, Int.one_mul]
  have hd : w / v = w / u := by
    have d := div_facts (w := w) hv1
    have lo : (w / u) * v ≤ w := by
      by_cases z : 1 ≤ w / u
      · have := key z; omega
      · have z0 : w / u = 0 := by omega
        rw [z0]; omega
    have a1 : w / u ≤ w / v := Int.le_ediv_of_mul_le (by omega) lo
    have a2 : w / v < w / u + 1 := Int.ediv_lt_of_lt_mul (by omega) (by omega)
    omega
  refine ⟨hd, (dist_gt hw hv1 hs).mpr ?_⟩
  rw [hd]
  refine ⟨fun z => ?_, by omega⟩
  have := key z
  omega
/-! ### rows -/
abbrev Row := Nat × Int × Int
def rw3 (r : Row) : PyData := .tuple [.int (r.1 : Int), .int r.2.1, .int r.2.2]
structure Bad (ws : List Int) (s : Int) (r : Row) : Prop where
  le : 1 ≤ r.2.1 ∧ r.2.1 ≤ r.2.2 ∧ r.2.2 ≤ 100000
  ex : ∃ w, ws[r.1]? = some w ∧ (0 < w / r.2.2 → s < w - (w / r.2.2) * r.2.2) ∧ s < (w / r.2.2 + 1) * r.2.1 - w
def Chain (ws : List Int) (s : Int) : Int → List Row → Int → Prop
  | b, [], e => b = e
  | b, r :: rs, e => r.2.1 = b ∧ Bad ws s r ∧ Chain ws s (r.2.2 + 1) rs e
theorem Chain.snoc {ws : List Int} {s : Int} : ∀ {rs : List Row} {b e : Int} {r : Row}, Chain ws s b rs e → r.2.1 = e → Bad ws s r → Chain ws s b (rs ++ [r]) (r.2.2 + 1)
  | [], b, e, r, h, h1, h2 => by
    have h' : b = e := h
    exact ⟨by omega, h2, rfl⟩
  | x :: rs, b, e, r, h, h1, h2 => ⟨h.1, h.2.1, Chain.snoc h.2.2 h1 h2⟩
theorem bad_of {ws : List Int} (h : Ws ws) {s u l : Int} {i : Nat} {w : Int} (hs : 0 ≤ s) (hi : ws[i]? = some w) (hu : 1 ≤ u) (hl : u ≤ l) (hl2 : l ≤ fr w s u) (hl3 : l ≤ 100000) (hd : s < dist w u) : Bad ws s (i, u, l) := by
  have hw := (h.b w (List.mem_of_getElem? hi)).1
  obtain ⟨e1, e2⟩ := fr_bad hw hu hs hd hl hl2
  refine ⟨⟨hu, hl, hl3⟩, w, hi, fun z => ?_, ?_⟩
  · exact ((dist_gt hw (show 1 ≤ l by omega) hs).mp e2).1 z
  · have := ((dist_gt hw hu hs).mp hd).2
    show s < (w / l + 1) * u - w
    rw [e1, Int.add_mul, Int.one_mul]
    omega
theorem good_iff {ws : List Int} {s u : Int} : good ws s u = true ↔ ∀ w ∈ ws, dist w u ≤ s := by simp [good]
/-! the loop of rows_against -/
def raEn (ws : List Int) (s lo hi : Int) (rs : List Row) (u : Int) (a b : Option SV) : En := [some (.d (T ws)), some (.d (.int s)), some (.d (.int lo)), some (.d (.int hi)), some (.l (rs.map rw3)), some (.d (.int u)), a, b]
theorem ev_rows {ws : List Int} {s lo hi : Int} (h : Ws ws) (hs : 0 ≤ s) (hs2 : s ≤ 100000) (h1 : 1 ≤ lo) (h2 : lo ≤ hi) (h3 : hi ≤ 100000) (h4 : (hi - lo + 1) * ws.length ≤ 20000) :
    ((∃ u, lo ≤ u ∧ u ≤ hi ∧ good ws s u = true) ∧ fcall g_rows_against 4 [.d (T ws), .d (.int s), .d (.int lo), .d (.int hi)] = some (.none, [.d (T ws), .d (.int s), .d (.int lo), .d (.int hi)])) ∨
    ((∀ u, lo ≤ u → u ≤ hi → good ws s u = false) ∧ ∃ rs : List Row, rs.length ≤ 100001 ∧ Chain ws s lo rs (hi + 1) ∧ fcall g_rows_against 4 [.d (T ws), .d (.int s), .d (.int lo), .d (.int hi)] = some (.tuple (rs.map rw3), [.d (T ws), .d (.int s), .d (.int lo), .d (.int hi)])) := by
  have hl := h.len
  have hc : ∀ (rs : List Row) (u : Int) (a b : Option SV), lo ≤ u → u ≤ hi → O a → O b → fLc (fSeq (fVar 0)) (gSet 6) fYes (fB oMin (fCons (fCall g_far 3 1 [] (fCons (fVar 6) (fCons (fVar 1) (fCons (fVar 5) fNil)))) (fCons (fVar 3) fNil))) [6] (raEn ws s lo hi rs u a b) =
      some ((ws.map fun w => min (fr w s u) hi).map .int, raEn ws s lo hi rs u a b) := fun rs u a b hu hu2 oa ob => by
    unfold raEn
    rw [fLc_imap (ns := ws) (en1 := [some (.d (T ws)), some (.d (.int s)), some (.d (.int lo)), some (.d (.int hi)), some (.l (rs.map rw3)), some (.d (.int u)), a, b]) (fun w => .int (min (fr w s u) hi)) (by simp) (by omega) (by rcases oa with rfl | ⟨_, rfl⟩ <;> rfl) fun n hn => ?_]
    · rcases oa with rfl | ⟨_, rfl⟩ <;> simp [Function.comp_def]
    · obtain ⟨b1, b2⟩ := h.b n hn
      rcases oa with rfl | ⟨_, rfl⟩ <;> rcases ob with rfl | ⟨_, rfl⟩ <;> simp [lcStep, open_, ev_far b1 b2 (show 1 ≤ u by omega) (show u ≤ 100000 by omega)]
  have loop := whileF_inv (c := fBool (f2 oLe (fVar 5) (fVar 3))) (b := (sSeq (sAsg (gSet 7) (fOfL (fLc (fSeq (fVar 0)) (gSet 6) fYes (fB oMin (fCons (fCall g_far 3 1 [] (fCons (fVar 6) (fCons (fVar 1) (fCons (fVar 5) fNil)))) (fCons (fVar 3) fNil))) [6])))
    (sSeq (sIf (fBool (f2 oLt (fB oMax (fCons (fVar 7) fNil)) (fVar 5))) (sRet (fC .none)) sNil)
    (sSeq (sApp 4 (fTup (fCons (fMethL oIndex (fVar 7) (fB oMax (fCons (fVar 7) fNil))) (fCons (fVar 5) (fCons (fB oMax (fCons (fVar 7) fNil)) fNil)))))
    (sAsg (gSet 5) (f2 oAdd (fB oMax (fCons (fVar 7) fNil)) (fC (.int 1))))))))
    (I := fun m en => ∃ (rs : List Row) (u : Int) (a b : Option SV), O a ∧ O b ∧ en = raEn ws s lo hi rs u a b ∧ lo ≤ u ∧ u ≤ hi + 1 ∧ m = (hi + 1 - u).toNat ∧ Chain ws s lo rs u ∧ (∀ v, lo ≤ v → v < u → good ws s v = false) ∧ (rs.length : Int) ≤ u - lo)
    (Post := fun o en => (o = .rt .none ∧ (∃ u, lo ≤ u ∧ u ≤ hi ∧ good ws s u = true) ∧ ∃ r, en = some (.d (T ws)) :: some (.d (.int s)) :: some (.d (.int lo)) :: some (.d (.int hi)) :: r) ∨ (o = .nx ∧ (∀ u, lo ≤ u → u ≤ hi → good ws s u = false) ∧ ∃ (rs : List Row) (u : Int) (a b : Option SV), rs.length ≤ 100001 ∧ Chain ws s lo rs (hi + 1) ∧ en = raEn ws s lo hi rs u a b))
    (fun m en ⟨rs, u, a, b, oa, ob, he, hu, hu2, hm, hch, hno, hrl⟩ => by
      subst he
      by_cases c : u ≤ hi
      · refine ⟨true, raEn ws s lo hi rs u a b, by simp [raEn, c], ?_⟩
        rw [if_pos rfl]
        have hends : (ws.map fun w => min (fr w s u) hi) ≠ [] := by simpa using h.nonil
        have mxe : oMax [.list ((ws.map fun w => min (fr w s u) hi).map .int)] = some (.int (mx (ws.map fun w => min (fr w s u) hi))) := maxL hends
        obtain ⟨j, ij, hj⟩ := indexL (mx_mem hends)
        have hcc := hc rs u a b hu c oa ob
        generalize hM : mx (ws.map fun w => min (fr w s u) hi) = M at mxe ij hj
        generalize hE : (ws.map fun w => min (fr w s u) hi) = E at mxe ij hj hcc
        have memE : ∀ w ∈ ws, min (fr w s u) hi ≤ M := fun w hw => by
          rw [← hM]
          exact mx_ge (List.mem_map.mpr ⟨w, hw, rfl⟩)
        by_cases c2 : M < u
        · refine ⟨.rt .none, [some (.d (T ws)), some (.d (.int s)), some (.d (.int lo)), some (.d (.int hi)), some (.l (rs.map rw3)), some (.d (.int u)), a, some (.d (.list (E.map .int)))], ?_, .inr (.inr ⟨.none, rfl, .inl ⟨rfl, ⟨u, hu, c, ?_⟩, _, rfl⟩⟩)⟩
          · unfold raEn at hcc ⊢
            rcases ob with rfl | ⟨_, rfl⟩ <;> simp [hcc, open_, mxe, c2]
          · rw [good_iff]
            intro w hw
            by_cases q : s < dist w u
            · have f1 := fr_ge (h.b w hw).1 (show 1 ≤ u by omega) (by omega) hs q
              have f2 := memE w hw
              omega
            · omega
        · have c3 : u ≤ M := by omega
          obtain ⟨w, hw1, hw2⟩ : ∃ w, ws[j]? = some w ∧ min (fr w s u) hi = M := by
            rw [← hE, List.getElem?_map] at hj
            obtain ⟨w, q1, q2⟩ := Option.map_eq_some_iff.mp hj
            exact ⟨w, q1, q2⟩
          have hwm := List.mem_of_getElem? hw1
          have hd : s < dist w u := by
            by_cases q : s < dist w u
            · exact q
            · have f0 : fr w s u = u - 1 := by unfold fr; rw [if_pos (by omega)]
              omega
          have hb : Bad ws s (j, u, M) := bad_of h hs hw1 (by omega) c3 (by omega) (by omega) hd
          refine ⟨.nx, raEn ws s lo hi (rs ++ [(j, u, M)]) (M + 1) a (some (.d (.list (E.map .int)))), ?_, .inl ⟨.inl rfl, (hi + 1 - (M + 1)).toNat, by omega, rs ++ [(j, u, M)], M + 1, a, _, oa, .inr ⟨_, rfl⟩, rfl, by omega, by omega, rfl, hch.snoc rfl hb, fun v hv1 hv2 => ?_, by simp; omega⟩⟩
          · have hlen : rs.length < 16777216 := by omega
            unfold raEn at hcc ⊢
            rcases ob with rfl | ⟨_, rfl⟩ <;> simp [hcc, open_, mxe, c2, live, putL, ij, rw3, hlen]
          · by_cases q : v < u
            · exact hno v hv1 q
            · have := (fr_bad (h.b w hwm).1 (show 1 ≤ u by omega) hs hd (show u ≤ v by omega) (by omega)).2
              rw [Bool.eq_false_iff]
              intro g
              have := good_iff.mp g w hwm
              omega
      · refine ⟨false, raEn ws s lo hi rs u a b, by simp [raEn]; omega, ?_⟩
        rw [if_neg (by decide)]
        have e : u = hi + 1 := by omega
        subst e
        exact .inr ⟨rfl, fun v hv1 hv2 => hno v hv1 (by omega), rs, _, a, b, by omega, hch, rfl⟩)
    fuel (hi + 1 - lo).toNat (raEn ws s lo hi [] lo none none) (by have : fuel = 1099511627776 := by rfl
                                                                   omega) ⟨[], lo, none, none, .inl rfl, .inl rfl, rfl, by omega, by omega, rfl, rfl, fun v hv1 hv2 => by omega, by simp⟩
  obtain ⟨o, en', e1, e2⟩ := loop
  unfold raEn at e1
  simp only [List.map_nil] at e1
  rcases e2 with ⟨rfl, hg, r, rfl⟩ | ⟨rfl, hno, rs, u, a, b, hrl, hch, rfl⟩
  · refine .inl ⟨hg, ?_⟩
    unfold fcall
    simp [g_rows_against, ev_check_range h hs hs2 h1 h2 h3 h4, open_, e1]
  · refine .inr ⟨hno, rs, hrl, hch, ?_⟩
    unfold raEn at e1
    unfold fcall
    simp [g_rows_against, ev_check_range h hs hs2 h1 h2 h3 h4, open_, e1, live]
end K28
set_option Elab.async false
set_option linter.all false
set_option maxRecDepth 100000
set_option maxHeartbeats 4000000
/-! P28d: k28, papers accepted; common units; weights drawn. -/
namespace K28
open PySem PySem.Spec L2 L2.FL

theorem Chain.all {ws : List Int} {s : Int} : ∀ {rs : List Row} {b e : Int}, Chain ws s b rs e → ∀ r ∈ rs, Bad ws s r
  | [], _, _, _, r, hr => by cases hr
  | x :: rs, b, e, h, r, hr => by
    rcases List.mem_cons.mp hr with rfl | hr
    · exact h.2.1
    · exact Chain.all h.2.2 r hr
/-- the first loop of accept_none -/
theorem an_loop1 {ws : List Int} {s lo hi : Int} {L : PyData} {o5 o6 o11 : Option SV} : ∀ {rs : List Row} {b e : Int} {o7 o8 o9 : Option SV}, Chain ws s b rs e → O o7 → O o8 → O o9 →
    ∃ o7' o8' o9', O o7' ∧ O o8' ∧ O o9' ∧ forL (gTup' (gCons' (gSet 7) (gCons' (gSet 8) (gCons' (gSet 9) gNil')))) (sSeq (sIf (fOr (fBool (f2 oNe (fVar 8) (fVar 10))) (fBool (f2 oLt (fVar 9) (fVar 8)))) sNever sNil) (sAsg (gSet 10) (f2 oAdd (fVar 9) (fC (.int 1))))) (rs.map rw3)
      [some (.d (T ws)), some (.d (.int s)), some (.d (.int lo)), some (.d (.int hi)), some (.d L), o5, o6, o7, o8, o9, some (.d (.int b)), o11] = some (.nx, [some (.d (T ws)), some (.d (.int s)), some (.d (.int lo)), some (.d (.int hi)), some (.d L), o5, o6, o7', o8', o9', some (.d (.int e)), o11])
  | [], b, e, o7, o8, o9, h, a7, a8, a9 => by
    have h' : b = e := h
    subst h'
    exact ⟨o7, o8, o9, a7, a8, a9, rfl⟩
  | r :: rs, b, e, o7, o8, o9, h, a7, a8, a9 => by
    obtain ⟨rfl, h2, h3⟩ := h
    obtain ⟨q7, q8, q9, k7, k8, k9, k⟩ := an_loop1 (o5 := o5) (o6 := o6) (o11 := o11) (L := L) (lo := lo) (hi := hi) (o7 := some (.d (.int (r.1 : Int)))) (o8 := some (.d (.int r.2.1))) (o9 := some (.d (.int r.2.2))) h3 (.inr ⟨_, rfl⟩) (.inr ⟨_, rfl⟩) (.inr ⟨_, rfl⟩)
    refine ⟨q7, q8, q9, k7, k8, k9, ?_⟩
    have c1 : ¬ r.2.2 < r.2.1 := by have := h2.le; omega
    rw [List.map_cons, x_forL1]
    rcases a7 with rfl | ⟨_, rfl⟩ <;> rcases a8 with rfl | ⟨_, rfl⟩ <;> rcases a9 with rfl | ⟨_, rfl⟩ <;> simp [rw3, open_, c1, k]
theorem an_loop2 {ws : List Int} {s lo hi : Int} {L : PyData} {o5 o10 : Option SV} : ∀ {rs : List Row} {o6 o7 o8 o9 o11 : Option SV}, (∀ r ∈ rs, Bad ws s r) → O o6 → O o7 → O o8 → O o9 → O o11 →
    ∃ en', forL (gTup' (gCons' (gSet 7) (gCons' (gSet 8) (gCons' (gSet 9) gNil')))) (sSeq (sAsg (gSet 6) (f2 oIx (fVar 0) (fVar 7)))
  (sSeq (sAsg (gSet 11) (f2 oDiv (fVar 6) (fVar 9)))
  (sIf (fOr (fAnd (fBool (f2 oGt (fVar 11) (fC (.int 0)))) (fBool (f2 oLe (f2 oSub (fVar 6) (f2 oMul (fVar 11) (fVar 9))) (fVar 1)))) (fBool (f2 oLe (f2 oSub (f2 oMul (f2 oAdd (fVar 11) (fC (.int 1))) (fVar 8)) (fVar 6)) (fVar 1)))) sNever sNil))) (rs.map rw3)
      [some (.d (T ws)), some (.d (.int s)), some (.d (.int lo)), some (.d (.int hi)), some (.d L), o5, o6, o7, o8, o9, o10, o11] = some (.nx, some (.d (T ws)) :: some (.d (.int s)) :: some (.d (.int lo)) :: some (.d (.int hi)) :: some (.d L) :: en')
  | [], o6, o7, o8, o9, o11, _, _, _, _, _, _ => ⟨_, rfl⟩
  | r :: rs, o6, o7, o8, o9, o11, h, a6, a7, a8, a9, a11 => by
    obtain ⟨hle, w, hw, g1, g2⟩ := h r (by simp)
    obtain ⟨en', k⟩ := an_loop2 (o5 := o5) (o10 := o10) (L := L) (lo := lo) (hi := hi) (rs := rs) (o6 := some (.d (.int w))) (o7 := some (.d (.int (r.1 : Int)))) (o8 := some (.d (.int r.2.1))) (o9 := some (.d (.int r.2.2))) (o11 := some (.d (.int (w / r.2.2)))) (fun x hx => h x (by simp [hx])) (.inr ⟨_, rfl⟩) (.inr ⟨_, rfl⟩) (.inr ⟨_, rfl⟩) (.inr ⟨_, rfl⟩) (.inr ⟨_, rfl⟩)
    refine ⟨en', ?_⟩
    have at1 : atI (ws.map PyData.int) (r.1 : Int) = some (.int w) := atI_at (by simp [hw])
    have dv : ∀ i, oDiv (.int i) (.int r.2.2) = some (.int (i / r.2.2)) := fun i => o_div (by omega) (by omega)
    have m1 : ∀ i, oMul (.int i) (.int r.2.2) = some (.int (i * r.2.2)) := fun i => o_mulR (by omega) (by omega)
    have m2 : ∀ i, oMul (.int i) (.int r.2.1) = some (.int (i * r.2.1)) := fun i => o_mulR (by omega) (by omega)
    have c2 : ¬ (w / r.2.2 + 1) * r.2.1 - w ≤ s := by omega
    rw [List.map_cons, x_forL1]
    by_cases z : 0 < w / r.2.2
    · have c1 : ¬ w - w / r.2.2 * r.2.2 ≤ s := by have := g1 z; omega
      rcases a6 with rfl | ⟨_, rfl⟩ <;> rcases a7 with rfl | ⟨_, rfl⟩ <;> rcases a8 with rfl | ⟨_, rfl⟩ <;> rcases a9 with rfl | ⟨_, rfl⟩ <;> rcases a11 with rfl | ⟨_, rfl⟩ <;> simp [rw3, open_, at1, dv, m1, m2, z, c1, c2, k]
    · rcases a6 with rfl | ⟨_, rfl⟩ <;> rcases a7 with rfl | ⟨_, rfl⟩ <;> rcases a8 with rfl | ⟨_, rfl⟩ <;> rcases a9 with rfl | ⟨_, rfl⟩ <;> rcases a11 with rfl | ⟨_, rfl⟩ <;> simp [rw3, open_, at1, dv, m1, m2, z, c2, k]
theorem flat3 (rs : List Row) : ((rs.map rw3).flatMap fun _ => [PyData.bool true, .bool true, .bool true]) = (List.replicate (3 * rs.length) true).map .bool := by
  induction rs with
  | nil => rfl
  | cons r rs ih =>
    rw [List.map_cons, List.flatMap_cons, ih, List.length_cons, show 3 * (rs.length + 1) = 3 * rs.length + 3 by omega]
    simp [List.replicate_succ]
theorem ev_accept_none {ws : List Int} {s lo hi : Int} {rs : List Row} (h : Ws ws) (hs : 0 ≤ s) (hs2 : s ≤ 100000) (h1 : 1 ≤ lo) (h2 : lo ≤ hi) (h3 : hi ≤ 100000) (h4 : (hi - lo + 1) * ws.length ≤ 20000) (hl : rs.length ≤ 100001) (hc : Chain ws s lo rs (hi + 1)) :
    ∃ as', fcall g_accept_none 7 [.d (T ws), .d (.int s), .d (.int lo), .d (.int hi), .d (.tuple (rs.map rw3))] = some (.none, as') := by
  have hb := hc.all
  let E : En := [some (.d (T ws)), some (.d (.int s)), some (.d (.int lo)), some (.d (.int hi)), some (.d (.tuple (rs.map rw3))), none, none, none, none, none, none, none]
  have c1 : fLc (fSeq (fVar 4)) (gSet 5) fYes (fAndT (f1 (isKind "tuple") (fVar 5)) (f2 oEq (fB oLen (fCons (fVar 5) fNil)) (fC (.int 3)))) [5] E = some ((rs.map fun _ => true).map .bool, E) := by
    rw [fLc_pure (xs := rs.map rw3) (en1 := E) (fun _ => some (.bool true)) (by simp [E]) (by simp; omega) rfl fun x hx => ?_]
    · simp [E, Function.comp_def]
    · obtain ⟨r, hr, rfl⟩ := List.mem_map.mp hx
      simp [E, lcStep, open_, rw3]
  have c2 : fLc2 (fSeq (fVar 4)) (gSet 5) fYes (fSeq (fVar 5)) (gSet 6) fYes (fCall g_is_integer 1 0 [] (fCons (fVar 6) fNil)) [5, 6] [6] E = some ((List.replicate (3 * rs.length) true).map .bool, E) := by
    rw [← flat3, fLc2_pure (xs := rs.map rw3) (en1 := E) (fun _ => [PyData.bool true, .bool true, .bool true]) (by simp [E]) (by rw [flat3]; simp; omega) rfl fun x hx => ?_]
    · simp [E]
    · obtain ⟨r, hr, rfl⟩ := List.mem_map.mp hx
      simp [E, lc2Step, open_, rw3, lcL, ev_is_integer]
  have c3 : fLc (fSeq (fVar 4)) (gTup' (gCons' (gSet 7) (gCons' (gSet 8) (gCons' (gSet 9) gNil')))) (fNot (fBool (fChain oLe oLt (fC (.int 0)) (fVar 7) (fB oLen (fCons (fVar 0) fNil))))) (fVar 7) [7, 8, 9] E = some ([], E) := by
    rw [fLc_pure (xs := rs.map rw3) (en1 := E) (fun _ => none) (by simp [E]) (by simp; omega) rfl fun x hx => ?_]
    · simp [E]
    · obtain ⟨r, hr, rfl⟩ := List.mem_map.mp hx
      obtain ⟨_, w, hw, _⟩ := hb r hr
      have hlt : r.1 < ws.length := (List.getElem?_eq_some_iff.mp hw).1
      have z1 : (0 : Int) ≤ (r.1 : Int) := by omega
      simp [E, lcStep, open_, rw3, hlt, z1]
  obtain ⟨q7, q8, q9, k7, k8, k9, l1⟩ := an_loop1 (lo := lo) (hi := hi) (L := .tuple (rs.map rw3)) (o5 := none) (o6 := none) (o11 := none) (o7 := none) (o8 := none) (o9 := none) hc (.inl rfl) (.inl rfl) (.inl rfl)
  obtain ⟨en', l2⟩ := an_loop2 (lo := lo) (hi := hi) (L := .tuple (rs.map rw3)) (o5 := none) (o10 := some (.d (.int (hi + 1)))) (o6 := none) (o11 := none) hb (.inl rfl) k7 k8 k9 (.inl rfl)
  have a1 := allB (rs.map fun _ => true)
  have a2 := allB (List.replicate (3 * rs.length) true)
  have t1 : (rs.map fun _ => true).all id = true := by simp
  have t2 : (List.replicate (3 * rs.length) true).all id = true := by simp [List.all_eq_true]
  rw [t1] at a1
  rw [t2] at a2
  unfold fcall
  simp only [E, List.map_map, List.map_replicate] at c1 c2 c3
  simp only [List.map_map, List.map_replicate] at a1 a2
  exact ⟨_, by simp [g_accept_none, ev_check_range h hs hs2 h1 h2 h3 h4, c1, c2, c3, a1, a2, open_, l1, l2]; rfl⟩
/-! accept_times -/
theorem ev_accept_times {ws ts : List Int} {s u : Int} (h : Ws ws) (hs : 0 ≤ s) (hs2 : s ≤ 100000) (hu : 1 ≤ u) (hu2 : u ≤ 100000) (hl : ts.length = ws.length) (ht : ∀ t ∈ ts, 1 ≤ t) (hd : ∀ (i : Nat) (w t : Int), ws[i]? = some w → ts[i]? = some t → ab (w - t * u) ≤ s) :
    ∃ as', fcall g_accept_times 2 [.d (T ws), .d (.int s), .d (.int u), .d (T ts)] = some (.none, as') := by
  have hl2 := h.len
  have ml : ∀ i, oMul (.int i) (.int u) = some (.int (i * u)) := fun i => o_mulR (by omega) (by omega)
  let E : En := [some (.d (T ws)), some (.d (.int s)), some (.d (.int u)), some (.d (T ts)), none, none]
  have c1 : fLc (fSeq (fVar 3)) (gSet 4) fYes (fAndT (fCall g_is_integer 1 0 [] (fCons (fVar 4) fNil)) (f2 oGe (fVar 4) (fC (.int 1)))) [4] E = some ((ts.map fun _ => true).map .bool, E) := by
    rw [fLc_imap (ns := ts) (en1 := E) (fun _ => .bool true) (by simp [E]) (by omega) rfl fun n hn => ?_]
    · simp [E, Function.comp_def]
    · simp [E, lcStep, open_, ev_is_integer, ht n hn]
  have c2 : fLc (fZip (fVar 0) (fVar 3)) (gTup' (gCons' (gSet 4) (gCons' (gSet 5) gNil'))) (fBool (f2 oGt (fB oAbs (fCons (f2 oSub (fVar 4) (f2 oMul (fVar 5) (fVar 2))) fNil)) (fVar 1))) (fC (.int 1)) [4, 5] E = some ([], E) := by
    rw [fLc_pure (xs := zipD (ws.map .int) (ts.map .int)) (en1 := E) (fun _ => none) (by simp [E]) (by rw [zipD_length]; simp; omega) rfl fun x hx => ?_]
    · simp [E]
    · obtain ⟨i, hi⟩ := List.mem_iff_getElem?.mp hx
      obtain ⟨a, b, q1, q2, rfl⟩ := zipD_get _ _ _ _ hi
      rw [List.getElem?_map] at q1 q2
      obtain ⟨w, w1, rfl⟩ := Option.map_eq_some_iff.mp q1
      obtain ⟨t, t1, rfl⟩ := Option.map_eq_some_iff.mp q2
      have := hd i w t w1 t1
      have z : ¬ s < ab (w - t * u) := by omega
      simp [E, lcStep, open_, ml, z]
  have a1 := allB (ts.map fun _ => true)
  have t1 : (ts.map fun _ => true).all id = true := by simp
  rw [t1] at a1
  unfold fcall
  simp only [E, List.map_map] at c1 c2
  simp only [List.map_map] at a1
  exact ⟨_, by simp [g_accept_times, ev_check_weights h, ev_check_slack hs hs2, ev_check_unit hu hu2, c1, c2, a1, hl]; rfl⟩
/-! greatest_unit -/
theorem atI_last {xs : List PyData} {x : PyData} (h : xs.getLast? = some x) : atI xs (-1) = some x := by
  rw [List.getLast?_eq_getElem?] at h
  have hl := (List.getElem?_eq_some_iff.mp h).1
  unfold atI ixN
  rw [if_neg (by decide), if_pos (by omega)]
  have e : ((-1 : Int) + (xs.length : Int)).toNat = xs.length - 1 := by omega
  simpa [e] using h
theorem ev_greatest_unit {ws : List Int} {s lo hi u : Int} (h : Ws ws) (hs : 0 ≤ s) (hs2 : s ≤ 100000) (h1 : 1 ≤ lo) (h2 : lo ≤ hi) (h3 : hi ≤ 100000) (h4 : (hi - lo + 1) * ws.length ≤ 20000) (hu : ((rng lo (hi + 1)).filter (good ws s)).getLast? = some u) :
    ∃ as', fcall g_greatest_unit 1 [.d (T ws), .d (.int s), .d (.int lo), .d (.int hi)] = some (.int u, as') := by
  have al : atI (((rng lo (hi + 1)).filter (good ws s)).map PyData.int) (-1) = some (.int u) := atI_last (by rw [List.getLast?_map, hu]; rfl)
  have ne : (((rng lo (hi + 1)).filter (good ws s)).map PyData.int).isEmpty = false := by
    cases hq : (rng lo (hi + 1)).filter (good ws s) with
    | nil => rw [hq] at hu; cases hu
    | cons => rfl
  unfold fcall
  exact ⟨_, by simp [g_greatest_unit, ev_good_units h hs hs2 h1 h2 h3 h4, open_, al, ne]; rfl⟩
end K28
set_option Elab.async false
set_option linter.all false
set_option maxRecDepth 100000
set_option maxHeartbeats 4000000
/-! P28e: k28, common units; weights drawn; equal and shown alike. -/
namespace K28
open PySem PySem.Spec L2 L2.FL

/-! ### common_unit -/
def cu : List Int → Int
  | [] => 0
  | w :: r => r.foldl (fun f o => (Int.gcd f o : Int)) w
theorem cut1 (x : PyData) (xs : List PyData) : cutD (x :: xs) (some 1) none = xs := by
  unfold cutD
  rw [show HT.sIx (x :: xs).length 0 (some 1) = min 1 (x :: xs).length from HT.sIx_nat _ _ 1, HT.sIx_none]
  try simp
theorem fuel_big {n : Nat} (h : n ≤ 1000000) : n ≤ fuel := by
  have : fuel = 1099511627776 := rfl
  omega
theorem cu_while {L : PyData} : ∀ (n : Nat) (a b : Int), 0 ≤ a → 0 ≤ b → b < n → ∀ N, n ≤ N → whileF (fTru (fVar 2)) (sPar [1, 2] (pE (fVar 2) (pE (f2 oMod (fVar 1) (fVar 2)) pNil))) N [some (.d L), some (.d (.int a)), some (.d (.int b))] = some (.nx, [some (.d L), some (.d (.int (Int.gcd a b))), some (.d (.int 0))])
  | 0, a, b, _, hb, hn, _, _ => by omega
  | n + 1, a, b, ha, hb, hn, N, hN => by
    cases N with
    | zero => omega
    | succ N =>
      unfold whileF
      by_cases z : b = 0
      · subst z
        have e : (Int.gcd a 0 : Int) = a := by simp [Int.gcd]; omega
        rw [e]
        simp
      · have md : oMod (.int a) (.int b) = some (.int (a % b)) := o_mod (by omega)
        have m0 := Int.emod_nonneg a z
        have m1 := Int.emod_lt_of_pos a (show 0 < b by omega)
        have ih := cu_while (L := L) n b (a % b) hb m0 (by omega) N (by omega)
        have e : Int.gcd b (a % b) = Int.gcd a b := by
          rw [Int.gcd_comm a b, Int.emod_def, Int.gcd_sub_mul_left_right]
        rw [e] at ih
        simp [z, md, open_, ih]
theorem cu_loop {L : PyData} : ∀ {ws : List Int} {a : Int} {o : Option SV}, 0 ≤ a → (∀ w ∈ ws, 1 ≤ w ∧ w ≤ 100000) → O o →
    ∃ o', forL (gSet 2) (sWhile (fTru (fVar 2)) (sPar [1, 2] (pE (fVar 2) (pE (f2 oMod (fVar 1) (fVar 2)) pNil)))) (ws.map .int) [some (.d L), some (.d (.int a)), o] = some (.nx, [some (.d L), some (.d (.int (ws.foldl (fun f o => (Int.gcd f o : Int)) a))), o'])
  | [], a, o, _, _, _ => ⟨o, rfl⟩
  | w :: r, a, o, ha, hw, ho => by
    obtain ⟨w1, w2⟩ := hw w (by simp)
    have k := cu_while (L := L) 100001 a w ha (by omega) (by omega) fuel (fuel_big (by omega))
    obtain ⟨o', ih⟩ := cu_loop (L := L) (ws := r) (a := (Int.gcd a w : Int)) (o := some (.d (.int 0))) (by omega) (fun x hx => hw x (by simp [hx])) (.inr ⟨_, rfl⟩)
    refine ⟨o', ?_⟩
    rw [List.map_cons, x_forL1]
    rcases ho with rfl | ⟨_, rfl⟩ <;> simp [open_, k, ih]
theorem ev_common_unit {ws : List Int} (h : Ws ws) : ∃ as', fcall g_common_unit 2 [.d (T ws)] = some (.int (cu ws), as') := by
  cases ws with
  | nil => exact absurd rfl h.nonil
  | cons w r =>
    obtain ⟨w1, w2⟩ := h.b w (by simp)
    obtain ⟨o', k⟩ := cu_loop (L := T (w :: r)) (ws := r) (a := w) (o := none) (by omega) (fun x hx => h.b x (by simp [hx])) (.inl rfl)
    have ck := ev_check_weights h
    have ct := cut1 (.int w) (r.map .int)
    simp only [T, List.map_cons] at k ck ⊢
    unfold fcall
    exact ⟨_, by simp [g_common_unit, T, ck, open_, ct, k, cu]; rfl⟩
theorem gcd_pos {a b : Int} (ha : 1 ≤ a) : 1 ≤ (Int.gcd a b : Int) := by
  have := Int.gcd_pos_of_ne_zero_left b (show a ≠ 0 by omega)
  omega
theorem cu_dvd : ∀ (ws : List Int) (a u : Int), u ∣ ws.foldl (fun f o => (Int.gcd f o : Int)) a ↔ u ∣ a ∧ ∀ w ∈ ws, u ∣ w
  | [], a, u => by simp
  | w :: r, a, u => by
    rw [List.foldl_cons, cu_dvd r]
    constructor
    · rintro ⟨h1, h2⟩
      have d1 : u ∣ a := Int.dvd_trans h1 (Int.gcd_dvd_left ..)
      have d2 : u ∣ w := Int.dvd_trans h1 (Int.gcd_dvd_right ..)
      exact ⟨d1, fun x hx => by
        rcases List.mem_cons.mp hx with rfl | hx
        · exact d2
        · exact h2 x hx⟩
    · rintro ⟨h1, h2⟩
      exact ⟨Int.dvd_coe_gcd h1 (h2 w (by simp)), fun x hx => h2 x (by simp [hx])⟩
theorem cu_pos : ∀ (ws : List Int) (a : Int), 1 ≤ a → 1 ≤ ws.foldl (fun f o => (Int.gcd f o : Int)) a
  | [], a, h => h
  | w :: r, a, h => cu_pos r _ (gcd_pos h)
theorem cu_le : ∀ (ws : List Int) (a : Int), 1 ≤ a → ws.foldl (fun f o => (Int.gcd f o : Int)) a ≤ a := fun ws a h => by
  have d := ((cu_dvd ws a _).mp (Int.dvd_refl _)).1
  exact Int.le_of_dvd (by omega) d
theorem dvd_cu {ws : List Int} {u : Int} (h : ws ≠ []) : u ∣ cu ws ↔ ∀ w ∈ ws, u ∣ w := by
  cases ws with
  | nil => exact absurd rfl h
  | cons w r =>
    show u ∣ r.foldl _ w ↔ _
    rw [cu_dvd]
    simp
theorem cu_ok {ws : List Int} (h : Ws ws) : 1 ≤ cu ws ∧ cu ws ≤ 100000 := by
  cases ws with
  | nil => exact absurd rfl h.nonil
  | cons w r =>
    obtain ⟨w1, w2⟩ := h.b w (by simp)
    exact ⟨cu_pos r w w1, Int.le_trans (cu_le r w w1) w2⟩
theorem cu_app {a b : List Int} (ha : Ws a) (hb : Ws b) (hab : Ws (a ++ b)) : cu (a ++ b) = cu [cu a, cu b] := by
  have pa := cu_ok ha
  have pb := cu_ok hb
  have pab := cu_ok hab
  have p2 : 1 ≤ cu [cu a, cu b] := cu_pos [cu b] (cu a) pa.1
  refine Int.dvd_antisymm (by omega) (by omega) ?_ ?_
  · rw [dvd_cu (by simp)]
    have d := (dvd_cu hab.nonil).mp (Int.dvd_refl (cu (a ++ b)))
    intro w hw
    simp only [List.mem_cons, List.not_mem_nil, or_false] at hw
    rcases hw with rfl | rfl
    · exact (dvd_cu ha.nonil).mpr fun w hw => d w (by simp [hw])
    · exact (dvd_cu hb.nonil).mpr fun w hw => d w (by simp [hw])
  · rw [dvd_cu hab.nonil]
    have d := (dvd_cu (ws := [cu a, cu b]) (by simp)).mp (Int.dvd_refl _)
    intro w hw
    rcases List.mem_append.mp hw with hw | hw
    · exact Int.dvd_trans (d (cu a) (by simp)) ((dvd_cu ha.nonil).mp (Int.dvd_refl _) w hw)
    · exact Int.dvd_trans (d (cu b) (by simp)) ((dvd_cu hb.nonil).mp (Int.dvd_refl _) w hw)
/-! ### _law_same -/
theorem ev_same {a : List Int} (h : ∀ n ∈ a, n.natAbs < 10 ^ 18) (hl : a.length ≤ 10000) : ∃ as', fcall g__law_same 0 [.d (T a), .d (T a)] = some (.bool true, as') := by
  have e1 := eqT a a
  have e2 := reprT h hl
  have e3 := eqStr (PyData.shown (.tuple (a.map .int)))
  simp only [decide_true] at e1
  unfold fcall
  exact ⟨_, by simp [g__law_same, e1, e2, e3]; rfl⟩
/-! ### draws -/
theorem ev_draw {S : List PyData} {b : Nat} {m : Int} (h : Drawn b S) (hb : b < 4611686018427387904) (hm : 1 ≤ m) (hm2 : m < 4611686018427387904) :
    ∃ r S', 0 ≤ r ∧ r < m ∧ Drawn (b + 1) S' ∧ fcall g__law_draw 1 [.p S, .d (.int m)] = some (.int r, [.p S', .d (.int m)]) := ev_rDraw h hb hm hm2
theorem ev_draw' {S : List PyData} {b : Nat} {m : Int} (h : Drawn b S) (hb : b < 1000000) (hm : 1 ≤ m) (hm2 : m < 1000000) :
    ∃ r S', (0 ≤ r ∧ r < m) ∧ Drawn (b + 1) S' ∧ fcall g__law_draw 1 [.p S, .d (.int m)] = some (.int r, [.p S', .d (.int m)]) := by
  obtain ⟨r, S', h1, h2, h3, h4⟩ := ev_draw h (by omega) hm (by omega)
  exact ⟨r, S', ⟨h1, h2⟩, h3, h4⟩
/-- what _law_weights draws -/
structure Small (ws : List Int) : Prop where
  ne : 1 ≤ ws.length
  len : ws.length ≤ 5
  b : ∀ w ∈ ws, 1 ≤ w ∧ w ≤ 100
theorem Small.ws {ws : List Int} (h : Small ws) : Ws ws := ⟨h.ne, by have := h.len; omega, fun w hw => by have := h.b w hw; omega⟩
theorem weights_loop {u : Int} (hu : 1 ≤ u) (hu2 : u ≤ 15) : ∀ {ks : List PyData} {b : Nat} {S : List PyData} {acc : List Int} {o : Option SV}, Drawn b S → b + 2 * ks.length < 1000000 → acc.length + ks.length ≤ 5 → (∀ w ∈ acc, 1 ≤ w ∧ w ≤ 100) → O o →
    ∃ (S' : List PyData) (acc' : List Int) (o' : Option SV), Drawn (b + 2 * ks.length) S' ∧ acc'.length = acc.length + ks.length ∧ (∀ w ∈ acc', 1 ≤ w ∧ w ≤ 100) ∧ forL (gSet 3) (sApp 2 (fB oMax (fCons (fOfL (fLst (fCons (fC (.int 1)) (fCons (f2 oSub (f2 oAdd (f2 oMul (fVar 1) (f2 oAdd (fC (.int 1)) (fCall g__law_draw 2 1 [] (fCons (fVar 0) (fCons (fC (.int 6)) fNil))))) (fCall g__law_draw 2 1 [] (fCons (fVar 0) (fCons (fC (.int 5)) fNil)))) (fC (.int 2))) fNil)))) fNil))) ks
      [some (.p S), some (.d (.int u)), some (.l (acc.map .int)), o] = some (.nx, [some (.p S'), some (.d (.int u)), some (.l (acc'.map .int)), o'])
  | [], b, S, acc, o, hS, _, _, ha, ho => ⟨S, acc, o, hS, rfl, ha, rfl⟩
  | k :: ks, b, S, acc, o, hS, hb, hl, ha, ho => by
    simp only [List.length_cons] at hb hl
    obtain ⟨r1, S1, ⟨a1, a2⟩, d1, e1⟩ := ev_draw' (m := 6) hS (by omega) (by decide) (by decide)
    obtain ⟨r2, S2, ⟨b1, b2⟩, d2, e2⟩ := ev_draw' (m := 5) d1 (by omega) (by decide) (by decide)
    have ml : oMul (.int u) (.int (1 + r1)) = some (.int (u * (1 + r1))) := o_mulR (by omega) (by omega)
    have bound : u * (1 + r1) ≤ 90 ∧ 0 ≤ u * (1 + r1) := ⟨by
      have m1 := Int.mul_le_mul (show u ≤ 15 by omega) (show 1 + r1 ≤ 6 by omega) (show 0 ≤ 1 + r1 by omega) (by decide)
      omega, Int.mul_nonneg (by omega) (by omega)⟩
    have mxe : oMax [.list [.int 1, .int (u * (1 + r1) + r2 - 2)]] = some (.int (mx [1, u * (1 + r1) + r2 - 2])) := maxL (ns := [1, u * (1 + r1) + r2 - 2]) (by simp)
    have mb : 1 ≤ mx [1, u * (1 + r1) + r2 - 2] ∧ mx [1, u * (1 + r1) + r2 - 2] ≤ 100 := by
      have g1 := mx_ge (ns := [1, u * (1 + r1) + r2 - 2]) (m := 1) (by simp)
      have g2 := mx_mem (ns := [1, u * (1 + r1) + r2 - 2]) (by simp)
      simp only [List.mem_cons, List.not_mem_nil, or_false] at g2
      refine ⟨g1, ?_⟩
      rcases g2 with g2 | g2 <;> rw [g2] <;> omega
    generalize mx [1, u * (1 + r1) + r2 - 2] = M at mxe mb
    obtain ⟨S', acc', o', q1, q2, q3, q4⟩ := weights_loop hu hu2 (ks := ks) (b := b + 1 + 1) (S := S2) (acc := acc ++ [M]) (o := some (.d k)) d2 (by omega) (by simp; omega) (fun w hw => by
      rcases List.mem_append.mp hw with hw | hw
      · exact ha w hw
      · rw [List.mem_singleton.mp hw]; exact mb) (.inr ⟨_, rfl⟩)
    refine ⟨S', acc', o', by rw [List.length_cons, show b + 2 * (ks.length + 1) = b + 1 + 1 + 2 * ks.length by omega]; exact q1, by simp at q2 ⊢; omega, q3, ?_⟩
    have hlen : acc.length < 16777216 := by omega
    simp only [List.map_append, List.map_cons, List.map_nil] at q4
    rw [x_forL1]
    rcases ho with rfl | ⟨_, rfl⟩ <;> simp [open_, live, putL, e1, e2, ml, mxe, hlen, q4]
theorem ev_weights {S : List PyData} {b : Nat} (h : Drawn b S) (hb : b < 100000) :
    ∃ ws S', Small ws ∧ Drawn (b + 20) S' ∧ fcall g__law_weights 3 [.p S] = some (T ws, [.p S']) := by
  obtain ⟨r1, S1, ⟨a1, a2⟩, d1, e1⟩ := ev_draw' (m := 15) h (by omega) (by decide) (by decide)
  obtain ⟨r2, S2, ⟨b1, b2⟩, d2, e2⟩ := ev_draw' (m := 5) d1 (by omega) (by decide) (by decide)
  obtain ⟨S', acc', o', q1, q2, q3, q4⟩ := weights_loop (u := 1 + r1) (by omega) (by omega) (ks := rngL 0 (1 + r2).toNat) (acc := []) (o := none) d2 (by simp [rngL]; omega) (by simp [rngL]; omega) (by simp) (.inl rfl)
  have hn : (rngL 0 (1 + r2).toNat).length = (1 + r2).toNat := by simp [rngL]
  rw [hn] at q1 q2
  simp only [List.length_nil, List.map_nil] at q2 q4
  refine ⟨acc', S', ⟨by omega, by omega, q3⟩, q1.mono (by omega), ?_⟩
  have z1 : RngOk (1 + r2) := rngIn (by omega) (by omega)
  unfold fcall
  simp [g__law_weights, open_, live, putL, e1, e2, z1, q4]
end K28
set_option Elab.async false
set_option linter.all false
set_option maxRecDepth 100000
set_option maxHeartbeats 4000000
/-! P28f: k28, units that divide. -/
namespace K28
open PySem PySem.Spec L2 L2.FL

theorem bnd {a b : Int} (ha : 0 ≤ a) (ha2 : a ≤ 1000) (hb : 0 ≤ b) (hb2 : b ≤ 20) : a * b ≤ 20000 := by
  have := Int.mul_le_mul ha2 hb2 hb (by decide)
  omega
theorem small_good {w u s : Int} (hw : 1 ≤ w) (hu : 1 ≤ u) (h1 : u ≤ w) (h2 : u ≤ 2 * s + 1) : dist w u ≤ s := by
  obtain ⟨h0, g1, g2, h⟩ := dist_cases hw hu
  rcases h with ⟨z, e, _⟩ | ⟨z, h⟩
  · rw [z] at g1 g2
    omega
  · generalize (w / u) * u = p at *
    omega
theorem div_good {w u o s : Int} (hw : 1 ≤ w) (hu : 1 ≤ u) (ho : 1 ≤ o) (hd : u / o * o = u) (h : dist w u ≤ s) : dist w o ≤ s := by
  have hn := nr_pos hw hu
  have hk : 1 ≤ u / o := by
    by_cases q : 1 ≤ u / o
    · exact q
    · have h0 : 0 ≤ u / o := Int.ediv_nonneg (by omega) (by omega)
      have z : u / o = 0 := by omega
      rw [z] at hd
      omega
  have ht : 1 ≤ nr w u * (u / o) := by
    have := Int.mul_le_mul hn hk (by decide) (by omega)
    omega
  have := dist_le hw ho ht
  rw [Int.mul_assoc, hd] at this
  exact Int.le_trans this h
theorem fcall_ex {g : SF} {n : Nat} {as : List SV} {o : PyData} {en : En} (h : g (as.map some ++ List.replicate n none) = some (.rt o, en)) : ∃ as', fcall g n as = some (o, as') := ⟨_, by unfold fcall; rw [h]; rfl⟩
theorem ev_divisors {ws : List Int} {s : Int} (h : Small ws) (hs : 0 ≤ s) (hs2 : s ≤ 10) : ∃ as', fcall g__law_divisors_hold 3 [.d (T ws), .d (.int s)] = some (.bool true, as') := by
  have hW := h.ws
  have hl := h.len
  have eG := ev_good_units (s := s) (lo := 1) (hi := 60) hW hs (by omega) (by decide) (by decide) (by decide) (bnd (by decide) (by decide) (by omega) (by omega))
  generalize hG : (rng 1 (60 + 1)).filter (good ws s) = G at eG
  have memG : ∀ x, x ∈ G ↔ (1 ≤ x ∧ x < 61) ∧ good ws s x = true := fun x => by
    rw [← hG, List.mem_filter, mem_rng]
    rfl
  obtain ⟨en', e1, a, oa, e2⟩ := forL_spec (g := gSet 3) (b := sIf (fTru (fOfL (fLc (fRng2 (fC (.int 1)) (fVar 3)) (gSet 4) (fAnd (fBool (f2 oEq (f2 oMul (f2 oDiv (fVar 3) (fVar 4)) (fVar 4)) (fVar 3))) (fBool (f2 oNotIn (fVar 4) (fVar 2)))) (fVar 4) [4]))) (sRet (fC (.bool false))) sNil)
    (fun en => ∃ a, O a ∧ en = [some (.d (T ws)), some (.d (.int s)), some (.d (T G)), a, none]) (fun _ => none) (xs := G.map .int) (en := [some (.d (T ws)), some (.d (.int s)), some (.d (T G)), none, none])
    (fun x hx en ⟨a, oa, he⟩ => by
      obtain ⟨u, hu, rfl⟩ := List.mem_map.mp hx
      subst he
      obtain ⟨⟨u1, u2⟩, ug⟩ := (memG u).mp hu
      refine ⟨[some (.d (T ws)), some (.d (.int s)), some (.d (T G)), some (.d (.int u)), none], ?_, some (.d (.int u)), .inr ⟨_, rfl⟩, rfl⟩
      have hc : fLc (fRng2 (fC (.int 1)) (fVar 3)) (gSet 4) (fAnd (fBool (f2 oEq (f2 oMul (f2 oDiv (fVar 3) (fVar 4)) (fVar 4)) (fVar 3))) (fBool (f2 oNotIn (fVar 4) (fVar 2)))) (fVar 4) [4] [some (.d (T ws)), some (.d (.int s)), some (.d (T G)), some (.d (.int u)), none] = some ([], [some (.d (T ws)), some (.d (.int s)), some (.d (T G)), some (.d (.int u)), none]) := by
        have z1 : RngOk u := rngIn (by omega) (by omega)
        rw [fLc_ints (ns := rng 1 u) (en1 := [some (.d (T ws)), some (.d (.int s)), some (.d (T G)), some (.d (.int u)), none]) (fun _ => false) .int (by simp [z1, rngL_rng]) (by rw [rng_length]; omega) rfl fun o ho => ?_]
        · simp
        · obtain ⟨o1, o2⟩ := mem_rng.mp ho
          have dv : ∀ i, oDiv (.int i) (.int o) = some (.int (i / o)) := fun i => o_div (by omega) (by omega)
          have ml : ∀ i, oMul (.int i) (.int o) = some (.int (i * o)) := fun i => o_mulR (by omega) (by omega)
          by_cases c : u / o * o = u
          · have hm : o ∈ G := (memG o).mpr ⟨by omega, good_iff.mpr fun w hw => div_good (hW.b w hw).1 u1 o1 c (good_iff.mp ug w hw)⟩
            simp [lcStep, open_, dv, ml, c, notInT, hm]
          · simp [lcStep, open_, dv, ml, c]
      rcases oa with rfl | ⟨_, rfl⟩ <;> simp [open_, hc]) ⟨none, .inl rfl, rfl⟩
  have hn : (G.map PyData.int).findSome? (fun _ => (none : Option PyData)) = none := by simp
  rw [hn, e2] at e1
  have m1 : oMul (.int 2) (.int s) = some (.int (2 * s)) := o_mulL (by decide) (by decide)
  have ct : oAdd (.list [.int (2 * s + 1)]) (.list (ws.map .int)) = some (.list (.int (2 * s + 1) :: ws.map .int)) := o_catL (by simp; omega)
  have mnE : oMin [.list (.int (2 * s + 1) :: ws.map .int)] = some (.int (mn ((2 * s + 1) :: ws))) := minL (ns := (2 * s + 1) :: ws) (by simp)
  have mn1 : mn ((2 * s + 1) :: ws) ≤ 2 * s + 1 := mn_le (by simp)
  have mn2 : ∀ w ∈ ws, mn ((2 * s + 1) :: ws) ≤ w := fun w hw => mn_le (by simp [hw])
  have mn3 : 1 ≤ mn ((2 * s + 1) :: ws) := by
    have := mn_mem (ns := (2 * s + 1) :: ws) (by simp)
    rcases List.mem_cons.mp this with e | e
    · rw [e]; omega
    · exact (h.b _ e).1
  generalize mn ((2 * s + 1) :: ws) = M at *
  have hc : fLc (fRng2 (fC (.int 1)) (f2 oAdd (fB oMin (fCons (f2 oAdd (fOfL (fLst (fCons (f2 oAdd (f2 oMul (fC (.int 2)) (fVar 1)) (fC (.int 1))) fNil))) (fOfL (fBL oListOf (fCons (fVar 0) fNil)))) fNil)) (fC (.int 1)))) (gSet 4) (fAnd (fBool (f2 oLt (fVar 4) (fC (.int 61)))) (fBool (f2 oNotIn (fVar 4) (fVar 2)))) (fVar 4) [4] [some (.d (T ws)), some (.d (.int s)), some (.d (T G)), a, none] =
      some ([], [some (.d (T ws)), some (.d (.int s)), some (.d (T G)), a, none]) := by
    have z1 : RngOk (M + 1) := rngIn (by omega) (by omega)
    rw [fLc_ints (ns := rng 1 (M + 1)) (en1 := [some (.d (T ws)), some (.d (.int s)), some (.d (T G)), a, none]) (fun _ => false) .int (by simp [m1, ct, mnE, z1, ← rngL_rng]) (by rw [rng_length]; omega) rfl fun o ho => ?_]
    · simp
    · obtain ⟨o1, o2⟩ := mem_rng.mp ho
      by_cases c : o < 61
      · have hm : o ∈ G := (memG o).mpr ⟨by omega, good_iff.mpr fun w hw => small_good (hW.b w hw).1 o1 (by have := mn2 w hw; omega) (by omega)⟩
        rcases oa with rfl | ⟨_, rfl⟩ <;> simp [lcStep, open_, c, notInT, hm]
      · rcases oa with rfl | ⟨_, rfl⟩ <;> simp [lcStep, open_, c]
  have eq0 := eqL [] []
  simp only [List.map_nil, decide_true] at eq0
  refine fcall_ex (en := [some (.d (T ws)), some (.d (.int s)), some (.d (T G)), a, none]) ?_
  simp [g__law_divisors_hold, eG, open_, e1, hc, eq0]
end K28
set_option Elab.async false
set_option linter.all false
set_option maxRecDepth 100000
set_option maxHeartbeats 4000000
/-! P28g: k28, weights stretched. -/
namespace K28
open PySem PySem.Spec L2 L2.FL

/-! ### stretched by f -/
theorem ab_mul {f x : Int} (hf : 1 ≤ f) : ab (f * x) = f * ab x := by
  unfold ab
  by_cases h : x < 0
  · have : f * x < 0 := Int.mul_neg_of_pos_of_neg (by omega) h
    rw [if_pos this, if_pos h, Int.mul_neg]
  · have : 0 ≤ f * x := Int.mul_nonneg (by omega) (by omega)
    rw [if_neg (by omega), if_neg h]
theorem sc_mul {f w t u : Int} : f * w - t * (f * u) = f * (w - t * u) := by
  rw [Int.mul_sub, Int.mul_left_comm]
theorem nr_sc {f w u : Int} (hf : 1 ≤ f) : nr (f * w) (f * u) = nr w u := by
  unfold nr
  rw [Int.mul_ediv_mul_of_pos _ _ (show 0 < f by omega), sc_mul, sc_mul, ab_mul hf, ab_mul hf]
  have e : (f * ab (w - max 1 (w / u) * u) ≤ f * ab (w - (max 1 (w / u) + 1) * u)) ↔ ab (w - max 1 (w / u) * u) ≤ ab (w - (max 1 (w / u) + 1) * u) :=
    ⟨fun h => Int.le_of_mul_le_mul_left h (by omega), fun h => Int.mul_le_mul_of_nonneg_left h (by omega)⟩
  simp only [e]
theorem dist_sc {f w u : Int} (hf : 1 ≤ f) : dist (f * w) (f * u) = f * dist w u := by
  unfold dist
  rw [nr_sc hf, sc_mul, ab_mul hf]
theorem lt_sc {f s d : Int} (hf : 1 ≤ f) : f * s < f * d ↔ s < d := ⟨fun h => Int.lt_of_mul_lt_mul_left h (by omega), fun h => Int.mul_lt_mul_of_pos_left h (by omega)⟩
theorem le_sc {f s d : Int} (hf : 1 ≤ f) : f * s ≤ f * d ↔ s ≤ d := ⟨fun h => Int.le_of_mul_le_mul_left h (by omega), fun h => Int.mul_le_mul_of_nonneg_left h (by omega)⟩
def wide (f : Int) (ws : List Int) : List Int := ws.map (f * ·)
def hv (u w : Int) : Int := if u ≤ w then w + u else w
def heavy (u : Int) (ws : List Int) : List Int := ws.map (hv u)
theorem good_sc {f s u : Int} {ws : List Int} (hf : 1 ≤ f) : good (wide f ws) (f * s) (f * u) = good ws s u := by
  unfold good wide
  rw [List.all_map]
  congr 1
  funext w
  simp only [Function.comp, dist_sc hf, le_sc hf]
theorem ofs_sc {f s u : Int} (hf : 1 ≤ f) : ∀ (ws : List Int) (k : Nat), ofs (f * s) (f * u) k (wide f ws) = ofs s u k ws
  | [], _ => rfl
  | w :: r, k => by
    have ih := ofs_sc hf r (k + 1) (s := s) (u := u)
    simp only [wide, List.map_cons, ofs, dist_sc hf, lt_sc hf] at ih ⊢
    rw [ih]
theorem hv_nr {w u : Int} (hw : 1 ≤ w) (hu : 1 ≤ u) : nr (hv u w) u = nr w u + (if u ≤ w then 1 else 0) ∧ hv u w - nr (hv u w) u * u = w - nr w u * u := by
  unfold hv
  by_cases c : u ≤ w
  · rw [if_pos c, if_pos c]
    have e : (w + u) / u = w / u + 1 := by
      rw [Int.add_ediv_of_dvd_right (Int.dvd_refl u), Int.ediv_self (by omega)]
    have h1 : 1 ≤ w / u := Int.le_ediv_of_mul_le (by omega) (by omega)
    have n1 : nr (w + u) u = nr w u + 1 := by
      unfold nr
      rw [e, show max 1 (w / u) = w / u from Int.max_eq_right h1, show max 1 (w / u + 1) = w / u + 1 from Int.max_eq_right (by omega)]
      have a1 : w + u - (w / u + 1) * u = w - w / u * u := by rw [Int.add_mul, Int.one_mul]; omega
      have a2 : w + u - (w / u + 1 + 1) * u = w - (w / u + 1) * u := by rw [Int.add_mul (w / u + 1), Int.one_mul]; omega
      rw [a1, a2]
      split <;> rfl
    refine ⟨n1, ?_⟩
    rw [n1, Int.add_mul, Int.one_mul]
    omega
  · rw [if_neg c, if_neg c]
    exact ⟨by omega, rfl⟩
theorem hv_dist {w u : Int} (hw : 1 ≤ w) (hu : 1 ≤ u) : dist (hv u w) u = dist w u := by
  unfold dist
  rw [(hv_nr hw hu).2]
theorem ofs_hv {s u : Int} (hu : 1 ≤ u) : ∀ (ws : List Int) (k : Nat), (∀ w ∈ ws, 1 ≤ w) → ofs s u k (heavy u ws) = ofs s u k ws
  | [], _, _ => rfl
  | w :: r, k, h => by
    have ih := ofs_hv hu r (k + 1) (s := s) fun x hx => h x (by simp [hx])
    simp only [heavy, List.map_cons, ofs, hv_dist (h w (by simp)) hu] at ih ⊢
    rw [ih]
theorem jd_cases {f s u : Int} (hf : 1 ≤ f) (hu : 1 ≤ u) : ∀ (ws : List Int) (k : Nat), (∀ w ∈ ws, 1 ≤ w) →
    (∃ (i d : Int), jd s u k ws = some (offD i d) ∧ jd (f * s) (f * u) k (wide f ws) = some (offD i (f * d)) ∧ jd s u k (heavy u ws) = some (offD i d)) ∨
    (jd s u k ws = none ∧ jd (f * s) (f * u) k (wide f ws) = none ∧ jd s u k (heavy u ws) = none ∧ ∀ w ∈ ws, dist w u ≤ s)
  | [], _, _ => .inr ⟨rfl, rfl, rfl, by simp⟩
  | w :: r, k, h => by
    have hw := h w (by simp)
    by_cases c : s < dist w u
    · refine .inl ⟨k, w - nr w u * u, ?_, ?_, ?_⟩
      · simp [jd, c]
      · simp [jd, wide, dist_sc hf, lt_sc hf, c, nr_sc hf, sc_mul]
      · simp [jd, heavy, hv_dist hw hu, c, (hv_nr hw hu).2]
    · have e1 : jd s u k (w :: r) = jd s u (k + 1) r := by simp [jd, c]
      have e2 : jd (f * s) (f * u) k (wide f (w :: r)) = jd (f * s) (f * u) (k + 1) (wide f r) := by simp [jd, wide, dist_sc hf, lt_sc hf, c]
      have e3 : jd s u k (heavy u (w :: r)) = jd s u (k + 1) (heavy u r) := by simp [jd, heavy, hv_dist hw hu, c]
      rcases jd_cases hf hu r (k + 1) (s := s) (fun x hx => h x (by simp [hx])) with ⟨i, d, q⟩ | ⟨q1, q2, q3, q4⟩
      · exact .inl ⟨i, d, by rw [e1]; exact q.1, by rw [e2]; exact q.2.1, by rw [e3]; exact q.2.2⟩
      · refine .inr ⟨by rw [e1]; exact q1, by rw [e2]; exact q2, by rw [e3]; exact q3, fun x hx => ?_⟩
        rcases List.mem_cons.mp hx with rfl | hx
        · omega
        · exact q4 x hx
/-! ### sorted rows of numbers -/
theorem sorted_ext : ∀ {a b : List Int}, a.Pairwise (· < ·) → b.Pairwise (· < ·) → (∀ x, x ∈ a ↔ x ∈ b) → a = b
  | [], [], _, _, _ => rfl
  | [], y :: t, _, _, h => absurd ((h y).mpr (by simp)) (by simp)
  | x :: r, [], _, _, h => absurd ((h x).mp (by simp)) (by simp)
  | x :: r, y :: t, h1, h2, h => by
    obtain ⟨p1, q1⟩ := List.pairwise_cons.mp h1
    obtain ⟨p2, q2⟩ := List.pairwise_cons.mp h2
    have e : x = y := by
      have m1 := (h x).mp (by simp)
      have m2 := (h y).mpr (by simp)
      rcases List.mem_cons.mp m1 with m1 | m1
      · exact m1
      · rcases List.mem_cons.mp m2 with m2 | m2
        · exact m2.symm
        · have := p2 x m1
          have := p1 y m2
          omega
    subst e
    rw [sorted_ext q1 q2 fun z => ?_]
    constructor
    · intro hz
      rcases List.mem_cons.mp ((h z).mp (by simp [hz])) with m | m
      · have := p1 z hz; omega
      · exact m
    · intro hz
      rcases List.mem_cons.mp ((h z).mpr (by simp [hz])) with m | m
      · have := p2 z hz; omega
      · exact m
theorem rng_sorted (lo hi : Int) : (rng lo hi).Pairwise (· < ·) := by
  unfold rng
  refine List.Pairwise.map _ (fun a b h => ?_) (List.pairwise_lt_range)
  show lo + (a : Int) < lo + (b : Int)
  omega
theorem stretch_list {f s : Int} {ws : List Int} (hf : 1 ≤ f) (hf5 : f ≤ 5) : ((rng 1 (40 * f + 1)).filter (good (wide f ws) (f * s))).filter (fun o => decide (o / f * f = o)) = ((rng 1 (40 + 1)).filter (good ws s)).map (f * ·) := by
  refine sorted_ext (((rng_sorted _ _).filter _).filter _) (List.Pairwise.map _ (fun a b h => ?_) ((rng_sorted _ _).filter _)) fun x => ?_
  · exact Int.mul_lt_mul_of_pos_left h (by omega)
  · simp only [List.mem_filter, List.mem_map, mem_rng, decide_eq_true_eq]
    constructor
    · rintro ⟨⟨⟨h1, h2⟩, h3⟩, h4⟩
      have e : x = f * (x / f) := by rw [Int.mul_comm]; exact h4.symm
      refine ⟨x / f, ⟨⟨?_, ?_⟩, ?_⟩, e.symm⟩
      · have h0 : 0 ≤ x / f := Int.ediv_nonneg (by omega) (by omega)
        by_cases z : x / f = 0
        · rw [z] at e; omega
        · omega
      · have := Int.lt_of_mul_lt_mul_left (show f * (x / f) < f * 41 by omega) (show 0 ≤ f by omega)
        omega
      · rw [e, good_sc hf] at h3
        exact h3
    · rintro ⟨u, ⟨⟨h1, h2⟩, h3⟩, rfl⟩
      have m1 := Int.mul_le_mul_of_nonneg_left h1 (show 0 ≤ f by omega)
      have m2 := Int.mul_le_mul_of_nonneg_left (show u ≤ 40 by omega) (show 0 ≤ f by omega)
      refine ⟨⟨⟨by omega, by omega⟩, ?_⟩, ?_⟩
      · rw [good_sc hf]; exact h3
      · rw [Int.mul_ediv_cancel_left _ (by omega), Int.mul_comm]
theorem md_sc {f u : Int} {ws : List Int} (hf : 1 ≤ f) (h : ws ≠ []) : md (wide f ws) (f * u) ≤ f * md ws u := by
  have m := mx_mem (ns := (wide f ws).map fun w => dist w (f * u)) (by simpa [wide] using h)
  obtain ⟨x, hx, e⟩ := List.mem_map.mp m
  obtain ⟨w, hw, rfl⟩ := List.mem_map.mp hx
  show mx ((wide f ws).map fun w => dist w (f * u)) ≤ _
  rw [← e, dist_sc hf]
  exact Int.mul_le_mul_of_nonneg_left (mx_ge (List.mem_map.mpr ⟨w, hw, rfl⟩)) (by omega)
theorem md_nonneg {u : Int} {ws : List Int} (h : ws ≠ []) : 0 ≤ md ws u := by
  have m := mx_mem (ns := ws.map fun w => dist w u) (by simpa using h)
  obtain ⟨w, hw, e⟩ := List.mem_map.mp m
  show 0 ≤ mx (ws.map fun w => dist w u)
  rw [← e]
  exact dist_nonneg _ _
theorem map_getD {g : Int → Int} : ∀ (ws : List Int), (rng 0 (ws.length : Int)).map (fun k => g (ws.getD k.toNat 0)) = ws.map g := fun ws => by
  apply List.ext_getElem?
  intro i
  simp only [rng, List.map_map, List.getElem?_map]
  by_cases h : i < ws.length
  · rw [List.getElem?_range (by omega), List.getElem?_eq_getElem h]
    simp [h]
  · rw [List.getElem?_eq_none (by simp; omega), List.getElem?_eq_none (by omega)]
    rfl
theorem rngL0 (n : Nat) : rngL 0 n = (rng 0 (n : Int)).map .int := by
  have := rngL_rng 0 (n : Int)
  simpa using this
/-! what is compared -/
theorem okd_off (i d : Int) : okd (offD i d) = true := by simp [okd, offD, PyData.plain, PyData.plainAll, PyData.depth, PyData.depthAll]
theorem okd_fits (ts : List Int) : okd (fitsD ts) = true := by
  simp [okd, fitsD, T, PyData.plain, PyData.plainAll, PyData.depth, PyData.depthAll, plainI, depthI]
theorem eq_same {d : PyData} (h : okd d = true) : oEq d d = some (.bool true) := by
  have := PySem.SeqAt.eqv_refl_plain d (okd_plain h).1
  simp [oEq, h, this]
theorem ne_same {d : PyData} (h : okd d = true) : oNe d d = some (.bool false) := by
  have := PySem.SeqAt.eqv_refl_plain d (okd_plain h).1
  simp [oNe, h, this]
theorem eqS (a b : Str) : oEq (.str a) (.str b) = some (.bool (a == b)) := by
  simp [oEq, okd, PyData.plain, PyData.depth, PyData.eqv]
theorem neS (a b : Str) : oNe (.str a) (.str b) = some (.bool (!(a == b))) := by
  simp [oNe, okd, PyData.plain, PyData.depth, PyData.eqv]
theorem s_of : (PySem.Str.ofString "off" == PySem.Str.ofString "fits") = false := by decide +kernel
theorem s_fo : (PySem.Str.ofString "fits" == PySem.Str.ofString "off") = false := by decide +kernel
theorem eq_of : oEq (.str (PySem.Str.ofString "off")) (.str (PySem.Str.ofString "fits")) = some (.bool false) := by rw [eqS, s_of]
theorem eq_ff : oEq (.str (PySem.Str.ofString "fits")) (.str (PySem.Str.ofString "fits")) = some (.bool true) := eqStr _
theorem eq_fo : oEq (.str (PySem.Str.ofString "fits")) (.str (PySem.Str.ofString "off")) = some (.bool false) := by rw [eqS, s_fo]
theorem eq_oo : oEq (.str (PySem.Str.ofString "off")) (.str (PySem.Str.ofString "off")) = some (.bool true) := eqStr _
theorem ne_ff : oNe (.str (PySem.Str.ofString "fits")) (.str (PySem.Str.ofString "fits")) = some (.bool false) := by
  rw [neS]
  simp
end K28
set_option Elab.async false
set_option linter.all false
set_option maxRecDepth 100000
set_option maxHeartbeats 8000000
/-! P28h: k28, _law_stretched_holds. -/
namespace K28
open PySem PySem.Spec L2 L2.FL

theorem wide_ws {f : Int} {ws : List Int} (h : Small ws) (hf : 1 ≤ f) (hf5 : f ≤ 5) : Ws (wide f ws) := by
  refine ⟨by have := h.ne; simpa [wide] using this, by have := h.len; simp [wide]; omega, fun x hx => ?_⟩
  obtain ⟨w, hw, rfl⟩ := List.mem_map.mp hx
  obtain ⟨w1, w2⟩ := h.b w hw
  have m1 := Int.mul_le_mul hf w1 (by decide) (by omega)
  have m2 := Int.mul_le_mul hf5 w2 (by omega) (by decide)
  exact ⟨by omega, by omega⟩
theorem heavy_ws {u : Int} {ws : List Int} (h : Small ws) (hu : 1 ≤ u) (hu2 : u ≤ 40) : Ws (heavy u ws) := by
  refine ⟨by have := h.ne; simpa [heavy] using this, by have := h.len; simp [heavy]; omega, fun x hx => ?_⟩
  obtain ⟨w, hw, rfl⟩ := List.mem_map.mp hx
  obtain ⟨w1, w2⟩ := h.b w hw
  unfold hv
  split <;> omega
noncomputable def g__law_stretched_holds_3 : SF := (sSeq (sIf (fOr (fBool (FL.f2 oNe (fVar 10) (fIfE (fBool (FL.f2 oEq (FL.f2 oIx (fVar 9) (fC (.int 0))) (fC (.str (PySem.Str.ofString "fits"))))) (fVar 9) (fTup (fCons (fC (.str (PySem.Str.ofString "off"))) (fCons (FL.f2 oIx (fVar 9) (fC (.int 1))) (fCons (FL.f2 oMul (fVar 3) (FL.f2 oIx (fVar 9) (fC (.int 2)))) fNil))))))) (fBool (FL.f2 oNe (fCall g_off_weights 3 2 [] (fCons (fVar 5) (fCons (FL.f2 oMul (fVar 3) (fVar 2)) (fCons (FL.f2 oMul (fVar 3) (fVar 8)) fNil)))) (fCall g_off_weights 3 2 [] (fCons (fVar 1) (fCons (fVar 2) (fCons (fVar 8) fNil))))))) (sRet (fC (.bool false))) sNil)
  (sSeq (sIf (fAnd (fBool (FL.f2 oEq (FL.f2 oIx (fVar 9) (fC (.int 0))) (fC (.str (PySem.Str.ofString "fits"))))) (fBool (fNotN (fCall g_accept_times 4 2 [] (fCons (fVar 5) (fCons (FL.f2 oMul (fVar 3) (fVar 2)) (fCons (FL.f2 oMul (fVar 3) (fVar 8)) (fCons (FL.f2 oIx (fVar 9) (fC (.int 1))) fNil)))))))) (sRet (fC (.bool false))) sNil)
  (sSeq (sAsg (gSet 11) (fB oTuple (fCons (fOfL (fLc (fSeq (fVar 1)) (gSet 4) fYes (fIfE (fBool (FL.f2 oGe (fVar 4) (fVar 8))) (FL.f2 oAdd (fVar 4) (fVar 8)) (fVar 4)) [4])) fNil)))
  (sSeq (sIf (fBool (FL.f2 oNe (fCall g_off_weights 3 2 [] (fCons (fVar 11) (fCons (fVar 2) (fCons (fVar 8) fNil)))) (fCall g_off_weights 3 2 [] (fCons (fVar 1) (fCons (fVar 2) (fCons (fVar 8) fNil)))))) (sRet (fC (.bool false))) sNil)
  (sSeq (sAsg (gSet 12) (fCall g_judge_unit 3 3 [] (fCons (fVar 11) (fCons (fVar 2) (fCons (fVar 8) fNil)))))
  (sSeq (sIf (fBool (FL.f2 oEq (FL.f2 oIx (fVar 9) (fC (.int 0))) (fC (.str (PySem.Str.ofString "off"))))) (sRet (FL.f2 oEq (fVar 12) (fVar 9))) sNil)
  (sRet (FL.f2 oEq (fVar 12) (fTup (fCons (fC (.str (PySem.Str.ofString "fits"))) (fCons (fB oTuple (fCons (fOfL (fLc (fRng1 (fB oLen (fCons (fVar 1) fNil))) (gSet 13) fYes (FL.f2 oAdd (FL.f2 oIx (FL.f2 oIx (fVar 9) (fC (.int 1))) (fVar 13)) (fIfE (fBool (FL.f2 oGe (FL.f2 oIx (fVar 1) (fVar 13)) (fVar 8))) (fC (.int 1)) (fC (.int 0)))) [13])) fNil)) fNil)))))))))))
noncomputable def g__law_stretched_holds_2 : SF := (sSeq (sAsg (gSet 8) (FL.f2 oAdd (fC (.int 1)) (fCall g__law_draw 2 1 [] (fCons (fVar 0) (fCons (fC (.int 40)) fNil)))))
  (sSeq (sPar [9, 10] (pE (fCall g_judge_unit 3 3 [] (fCons (fVar 1) (fCons (fVar 2) (fCons (fVar 8) fNil)))) (pE (fCall g_judge_unit 3 3 [] (fCons (fVar 5) (fCons (FL.f2 oMul (fVar 3) (fVar 2)) (fCons (FL.f2 oMul (fVar 3) (fVar 8)) fNil)))) pNil)))
  g__law_stretched_holds_3))
theorem g__law_stretched_holds_cut : g__law_stretched_holds = (sSeq (sAsg (gSet 3) (FL.f2 oAdd (fC (.int 2)) (fCall g__law_draw 2 1 [] (fCons (fVar 0) (fCons (fC (.int 4)) fNil)))))
  (sSeq (sAsg (gSet 5) (fB oTuple (fCons (fOfL (fLc (fSeq (fVar 1)) (gSet 4) fYes (FL.f2 oMul (fVar 3) (fVar 4)) [4])) fNil)))
  (sSeq (sPar [6, 7] (pE (fCall g_good_units 4 1 [] (fCons (fVar 1) (fCons (fVar 2) (fCons (fC (.int 1)) (fCons (fC (.int 40)) fNil))))) (pE (fCall g_good_units 4 1 [] (fCons (fVar 5) (fCons (FL.f2 oMul (fVar 3) (fVar 2)) (fCons (fC (.int 1)) (fCons (FL.f2 oMul (fC (.int 40)) (fVar 3)) fNil))))) pNil)))
  (sSeq (sIf (fOr (fBool (FL.f2 oNe (fOfL (fLc (fSeq (fVar 7)) (gSet 4) (fBool (FL.f2 oEq (FL.f2 oMul (FL.f2 oDiv (fVar 4) (fVar 3)) (fVar 3)) (fVar 4))) (fVar 4) [4])) (fOfL (fLc (fSeq (fVar 6)) (gSet 4) fYes (FL.f2 oMul (fVar 3) (fVar 4)) [4])))) (fBool (FL.f2 oGt (FL.f2 oIx (fCall g_closest_unit 3 4 [] (fCons (fVar 5) (fCons (fVar 3) (fCons (FL.f2 oMul (fC (.int 40)) (fVar 3)) fNil)))) (fC (.int 0))) (FL.f2 oMul (fVar 3) (FL.f2 oIx (fCall g_closest_unit 3 4 [] (fCons (fVar 1) (fCons (fC (.int 1)) (fCons (fC (.int 40)) fNil)))) (fC (.int 0))))))) (sRet (fC (.bool false))) sNil)
  g__law_stretched_holds_2)))) := rfl
/-- the second half, told by what the first left -/
def shEn (S : List PyData) (ws : List Int) (s f : Int) (G M : List Int) (u : Int) (x9 x10 : PyData) : En := [some (.p S), some (.d (T ws)), some (.d (.int s)), some (.d (.int f)), none, some (.d (T (wide f ws))), some (.d (T G)), some (.d (T M)), some (.d (.int u)), some (.d x9), some (.d x10), none, none, none]
section
variable {S : List PyData} {ws G M : List Int} {s f u : Int}
theorem sh_k4 (h : Small ws) (x9 x10 : PyData) : fLc (fSeq (fVar 1)) (gSet 4) fYes (fIfE (fBool (FL.f2 oGe (fVar 4) (fVar 8))) (FL.f2 oAdd (fVar 4) (fVar 8)) (fVar 4)) [4] (shEn S ws s f G M u x9 x10) = some ((heavy u ws).map .int, shEn S ws s f G M u x9 x10) := by
  have hl := h.len
  unfold shEn
  rw [fLc_imap (ns := ws) (en1 := [some (.p S), some (.d (T ws)), some (.d (.int s)), some (.d (.int f)), none, some (.d (T (wide f ws))), some (.d (T G)), some (.d (T M)), some (.d (.int u)), some (.d x9), some (.d x10), none, none, none]) (fun w => .int (hv u w)) (by simp) (by omega) rfl fun n hn => ?_]
  · simp [heavy, Function.comp_def]
  · unfold hv
    by_cases c : u ≤ n
    · simp [lcStep, open_, c]
    · simp [lcStep, open_, c]
theorem rng1_at {en en1 : En} {g : EF} {m : Int} (h : g en = some (.d (.int m), en1)) (h0 : 0 ≤ m) (hn : m ≤ 1000000) : fRng1 g en = some ((rng 0 m).map .int, en1) := by
  unfold fRng1
  rw [h]
  simp only [Option.bind_some, x_asInt]
  rw [if_pos (rngIn (by omega) (by omega))]
  have := rngL_rng 0 m
  rw [Int.sub_zero] at this
  rw [this]
theorem sh_k5 (h : Small ws) (x10 x11 x12 : PyData) : fLc (fRng1 (fB oLen (fCons (fVar 1) fNil))) (gSet 13) fYes (FL.f2 oAdd (FL.f2 oIx (FL.f2 oIx (fVar 9) (fC (.int 1))) (fVar 13)) (fIfE (fBool (FL.f2 oGe (FL.f2 oIx (fVar 1) (fVar 13)) (fVar 8))) (fC (.int 1)) (fC (.int 0)))) [13] [some (.p S), some (.d (T ws)), some (.d (.int s)), some (.d (.int f)), none, some (.d (T (wide f ws))), some (.d (T G)), some (.d (T M)), some (.d (.int u)), some (.d (fitsD (ws.map fun w => nr w u))), some (.d x10), some (.d x11), some (.d x12), none] =
    some ((ws.map fun w => nr w u + if u ≤ w then 1 else 0).map .int, [some (.p S), some (.d (T ws)), some (.d (.int s)), some (.d (.int f)), none, some (.d (T (wide f ws))), some (.d (T G)), some (.d (T M)), some (.d (.int u)), some (.d (fitsD (ws.map fun w => nr w u))), some (.d x10), some (.d x11), some (.d x12), none]) := by
  have hl := h.len
  rw [← map_getD (g := fun w => nr w u + if u ≤ w then 1 else 0) ws, fLc_imap (ns := rng 0 (ws.length : Int)) (en1 := [some (.p S), some (.d (T ws)), some (.d (.int s)), some (.d (.int f)), none, some (.d (T (wide f ws))), some (.d (T G)), some (.d (T M)), some (.d (.int u)), some (.d (fitsD (ws.map fun w => nr w u))), some (.d x10), some (.d x11), some (.d x12), none]) (fun k => .int (nr (ws.getD k.toNat 0) u + if u ≤ ws.getD k.toNat 0 then 1 else 0)) ?_ (by rw [rng_length]; omega) rfl fun n hn => ?_]
  · simp [Function.comp_def]
  · exact rng1_at (by simp) (by omega) (by omega)
  · obtain ⟨n1, n2⟩ := mem_rng.mp hn
    obtain ⟨i, rfl⟩ : ∃ i : Nat, n = (i : Int) := ⟨n.toNat, by omega⟩
    have hi : i < ws.length := by omega
    have a1 : atI ((ws.map fun w => nr w u).map PyData.int) (i : Int) = some (.int (nr ws[i] u)) := atI_at (by simp [hi])
    have a2 : atI (ws.map PyData.int) (i : Int) = some (.int ws[i]) := atI_at (by simp [hi])
    have a3 : ws.getD i 0 = ws[i] := by simp [hi]
    simp only [List.map_map] at a1
    simp only [Int.toNat_natCast, a3]
    by_cases c : u ≤ ws[i]
    · simp [lcStep, open_, fitsD, a1, a2, c]
    · simp [lcStep, open_, fitsD, a1, a2, c]
theorem sh_facts (h : Small ws) (hs : 0 ≤ s) (hs2 : s ≤ 5) (hf : 1 ≤ f) (hf5 : f ≤ 5) (hu : 1 ≤ u) (hu40 : u ≤ 40) : 0 ≤ f * s ∧ f * s ≤ 100000 ∧ 1 ≤ f * u ∧ f * u ≤ 200 :=
  ⟨Int.mul_nonneg (by omega) hs, by have := Int.mul_le_mul hf5 hs2 hs (by decide); omega, by have := Int.mul_le_mul hf hu (by decide) (by omega); omega, by have := Int.mul_le_mul hf5 hu40 (by omega) (by decide); omega⟩
theorem sh_off (h : Small ws) (hs : 0 ≤ s) (hs2 : s ≤ 5) (hf : 1 ≤ f) (hf5 : f ≤ 5) (hu : 1 ≤ u) (hu40 : u ≤ 40) {i d : Int} (j3 : jd s u 0 (heavy u ws) = some (offD i d)) : ∃ en, g__law_stretched_holds_3 (shEn S ws s f G M u (offD i d) (offD i (f * d))) = some (.rt (.bool true), some (.p S) :: en) := by
  obtain ⟨fs1, fs2, fu1, fu2⟩ := sh_facts h hs hs2 hf hf5 hu hu40
  have hw1 : ∀ w ∈ ws, 1 ≤ w := fun w hw => (h.b w hw).1
  have hWw := wide_ws h hf hf5
  have hWh := heavy_ws h hu hu40
  have mf : ∀ i, oMul (.int f) (.int i) = some (.int (f * i)) := fun i => o_mulL (by omega) (by omega)
  have eJ3 := ev_judge_unit (s := s) (u := u) hWh hs (by omega) hu (by omega)
  have eO1 := ev_off_weights (s := s) (u := u) h.ws hs (by omega) hu (by omega)
  have eO2 := ev_off_weights (s := f * s) (u := f * u) hWw fs1 fs2 fu1 (by omega)
  have eO3 := ev_off_weights (s := s) (u := u) hWh hs (by omega) hu (by omega)
  rw [ofs_sc hf] at eO2
  rw [ofs_hv hu ws 0 hw1] at eO3
  have neO := neT (ofs s u 0 ws) (ofs s u 0 ws)
  simp only [decide_true, Bool.not_true] at neO
  have t3 : judge (heavy u ws) s u = offD i d := by unfold judge; rw [j3]
  rw [t3] at eJ3
  have n1 := ne_same (okd_off i (f * d))
  have n2 := eq_same (okd_off i d)
  have k4 := sh_k4 (S := S) (s := s) (f := f) (G := G) (M := M) (u := u) h (offD i d) (offD i (f * d))
  unfold shEn at k4 ⊢
  simp only [offD] at eJ3 n1 n2 k4 ⊢
  exact ⟨_, by simp [g__law_stretched_holds_3, open_, k4, mf, eJ3, eO1, eO2, eO3, neO, eq_of, eq_oo, n1, n2]; rfl⟩
theorem sh_fits (h : Small ws) (hs : 0 ≤ s) (hs2 : s ≤ 5) (hf : 1 ≤ f) (hf5 : f ≤ 5) (hu : 1 ≤ u) (hu40 : u ≤ 40) (j3 : jd s u 0 (heavy u ws) = none) (j4 : ∀ w ∈ ws, dist w u ≤ s) : ∃ en, g__law_stretched_holds_3 (shEn S ws s f G M u (fitsD (ws.map fun w => nr w u)) (fitsD (ws.map fun w => nr w u))) = some (.rt (.bool true), some (.p S) :: en) := by
  obtain ⟨fs1, fs2, fu1, fu2⟩ := sh_facts h hs hs2 hf hf5 hu hu40
  have hw1 : ∀ w ∈ ws, 1 ≤ w := fun w hw => (h.b w hw).1
  have hWw := wide_ws h hf hf5
  have hWh := heavy_ws h hu hu40
  have lw : (wide f ws).length = ws.length := by simp [wide]
  have mf : ∀ i, oMul (.int f) (.int i) = some (.int (f * i)) := fun i => o_mulL (by omega) (by omega)
  have eJ3 := ev_judge_unit (s := s) (u := u) hWh hs (by omega) hu (by omega)
  have eO1 := ev_off_weights (s := s) (u := u) h.ws hs (by omega) hu (by omega)
  have eO2 := ev_off_weights (s := f * s) (u := f * u) hWw fs1 fs2 fu1 (by omega)
  have eO3 := ev_off_weights (s := s) (u := u) hWh hs (by omega) hu (by omega)
  rw [ofs_sc hf] at eO2
  rw [ofs_hv hu ws 0 hw1] at eO3
  have neO := neT (ofs s u 0 ws) (ofs s u 0 ws)
  simp only [decide_true, Bool.not_true] at neO
  have t3 : judge (heavy u ws) s u = fitsD (ws.map fun w => nr w u + if u ≤ w then 1 else 0) := by
    unfold judge
    rw [j3]
    simp only [heavy, List.map_map]
    congr 1
    exact List.map_congr_left fun w hw => (hv_nr (hw1 w hw) hu).1
  rw [t3] at eJ3
  have n1 := ne_same (okd_fits (ws.map fun w => nr w u))
  have n2 := eq_same (okd_fits (ws.map fun w => nr w u + if u ≤ w then 1 else 0))
  obtain ⟨as', eA⟩ := ev_accept_times (ts := ws.map fun w => nr w u) hWw fs1 fs2 fu1 (by omega) (by rw [lw]; simp) (fun t ht => by
    obtain ⟨w, hw, rfl⟩ := List.mem_map.mp ht
    exact nr_pos (hw1 w hw) hu) (fun i w t q1 q2 => by
    simp only [wide, List.getElem?_map, Option.map_eq_some_iff] at q1 q2
    obtain ⟨w0, p1, rfl⟩ := q1
    obtain ⟨w0', p2, rfl⟩ := q2
    rw [p1] at p2
    cases p2
    rw [sc_mul, ab_mul hf]
    exact Int.mul_le_mul_of_nonneg_left (j4 w0 (List.mem_of_getElem? p1)) (by omega))
  have k5 := fun x10 x11 x12 => sh_k5 (S := S) (s := s) (f := f) (G := G) (M := M) (u := u) h x10 x11 x12
  have n3 : oEq (.tuple [.str (PySem.Str.ofString "fits"), T (ws.map fun w => nr w u + if u ≤ w then 1 else 0)]) (.tuple [.str (PySem.Str.ofString "fits"), .tuple (ws.map (PyData.int ∘ fun w => nr w u + if u ≤ w then 1 else 0))]) = some (.bool true) := by
    rw [← List.map_map]
    exact n2
  have k4 := sh_k4 (S := S) (s := s) (f := f) (G := G) (M := M) (u := u) h (fitsD (ws.map fun w => nr w u)) (fitsD (ws.map fun w => nr w u))
  unfold shEn at k4 ⊢
  simp only [fitsD, List.map_map] at eJ3 n1 n2 k5 eA k4 ⊢
  exact ⟨_, by simp [g__law_stretched_holds_3, open_, k4, k5, mf, eJ3, eO1, eO2, eO3, neO, eq_ff, eq_fo, n1, n2, n3, eA]; rfl⟩
end
theorem ev_stretched {ws : List Int} {s : Int} {S : List PyData} {b : Nat} (h : Small ws) (hs : 0 ≤ s) (hs2 : s ≤ 5) (hS : Drawn b S) (hb : b < 100000) :
    ∃ S' as', Drawn (b + 2) S' ∧ fcall g__law_stretched_holds 11 [.p S, .d (T ws), .d (.int s)] = some (.bool true, .p S' :: as') := by
  obtain ⟨r1, S1, ⟨a1, a2⟩, d1, e1⟩ := ev_draw' (m := 4) hS (by omega) (by decide) (by decide)
  obtain ⟨r2, S2, ⟨b1, b2⟩, d2, e2⟩ := ev_draw' (m := 40) d1 (by omega) (by decide) (by decide)
  obtain ⟨f, rfl⟩ : ∃ f, r1 = f - 2 := ⟨r1 + 2, by omega⟩
  obtain ⟨u, rfl⟩ : ∃ u, r2 = u - 1 := ⟨r2 + 1, by omega⟩
  have f2 : (2 : Int) + (f - 2) = f := by omega
  have u1 : (1 : Int) + (u - 1) = u := by omega
  have hf : 1 ≤ f := by omega
  have hf5 : f ≤ 5 := by omega
  have hu : 1 ≤ u := by omega
  have hu40 : u ≤ 40 := by omega
  have hW := h.ws
  have hl := h.len
  have hw1 : ∀ w ∈ ws, 1 ≤ w := fun w hw => (h.b w hw).1
  have hWw := wide_ws h hf hf5
  have hWh := heavy_ws h hu hu40
  have lw : (wide f ws).length = ws.length := by simp [wide]
  have fs1 : 0 ≤ f * s := Int.mul_nonneg (by omega) hs
  have fs2 : f * s ≤ 100000 := by have := Int.mul_le_mul hf5 hs2 hs (by decide); omega
  have fu1 : 1 ≤ f * u := by have := Int.mul_le_mul hf hu (by decide) (by omega); omega
  have fu2 : f * u ≤ 200 := by have := Int.mul_le_mul hf5 hu40 (by omega) (by decide); omega
  have mf : ∀ i, oMul (.int f) (.int i) = some (.int (f * i)) := fun i => o_mulL (by omega) (by omega)
  have mff : ∀ i, oMul (.int i) (.int f) = some (.int (i * f)) := fun i => o_mulR (by omega) (by omega)
  have df : ∀ i, oDiv (.int i) (.int f) = some (.int (i / f)) := fun i => o_div (by omega) (by omega)
  have eG := ev_good_units (s := s) (lo := 1) (hi := 40) hW hs (by omega) (by decide) (by decide) (by decide) (bnd (by decide) (by decide) (by omega) (by omega))
  have eM := ev_good_units (s := f * s) (lo := 1) (hi := 40 * f) hWw fs1 fs2 (by decide) (by omega) (by omega) (bnd (by omega) (by omega) (by omega) (by omega))
  have eL := stretch_list (s := s) (ws := ws) hf hf5
  obtain ⟨v1, hv1, m1, c1⟩ := ev_closest_unit (lo := 1) (hi := 40) hW (by decide) (by decide) (by decide) (bnd (by decide) (by decide) (by omega) (by omega))
  obtain ⟨v2, hv2, m2, c2⟩ := ev_closest_unit (lo := f) (hi := 40 * f) hWw (by omega) (by omega) (by omega) (bnd (by omega) (by omega) (by omega) (by omega))
  have gap : ¬ f * md ws v1 < md (wide f ws) v2 := by
    obtain ⟨q1, q2⟩ := mem_rng.mp hv1
    have k1 := Int.mul_le_mul_of_nonneg_left q1 (show 0 ≤ f by omega)
    have k2 := Int.mul_le_mul_of_nonneg_left (show v1 ≤ 40 by omega) (show 0 ≤ f by omega)
    have k3 := m2 (f * v1) (mem_rng.mpr ⟨by omega, by omega⟩)
    have k4 := md_sc (u := v1) hf hW.nonil
    omega
  have eJ1 := ev_judge_unit (s := s) (u := u) hW hs (by omega) hu (by omega)
  have eJ2 := ev_judge_unit (s := f * s) (u := f * u) hWw fs1 fs2 fu1 (by omega)
  generalize hG : (rng 1 (40 + 1)).filter (good ws s) = G at eG eL
  generalize hM : (rng 1 (40 * f + 1)).filter (good (wide f ws) (f * s)) = M at eM eL
  have lG : G.length ≤ 100 := by
    rw [← hG]
    refine Nat.le_trans (List.length_filter_le _ _) ?_
    rw [rng_length]
    decide
  have lM : M.length ≤ 1000 := by
    rw [← hM]
    refine Nat.le_trans (List.length_filter_le _ _) ?_
    rw [rng_length]
    omega
  have k1 : fLc (fSeq (fVar 1)) (gSet 4) fYes (FL.f2 oMul (fVar 3) (fVar 4)) [4] [some (.p S1), some (.d (T ws)), some (.d (.int s)), some (.d (.int f)), none, none, none, none, none, none, none, none, none, none] =
      some ((wide f ws).map .int, [some (.p S1), some (.d (T ws)), some (.d (.int s)), some (.d (.int f)), none, none, none, none, none, none, none, none, none, none]) := by
    rw [fLc_imap (ns := ws) (en1 := [some (.p S1), some (.d (T ws)), some (.d (.int s)), some (.d (.int f)), none, none, none, none, none, none, none, none, none, none]) (fun w => .int (f * w)) (by simp) (by omega) rfl fun n hn => ?_]
    · simp [wide, Function.comp_def]
    · simp [lcStep, open_, mf]
  have k2 : fLc (fSeq (fVar 7)) (gSet 4) (fBool (FL.f2 oEq (FL.f2 oMul (FL.f2 oDiv (fVar 4) (fVar 3)) (fVar 3)) (fVar 4))) (fVar 4) [4] [some (.p S1), some (.d (T ws)), some (.d (.int s)), some (.d (.int f)), none, some (.d (T (wide f ws))), some (.d (T G)), some (.d (T M)), none, none, none, none, none, none] =
      some ((M.filter (fun o => decide (o / f * f = o))).map .int, [some (.p S1), some (.d (T ws)), some (.d (.int s)), some (.d (.int f)), none, some (.d (T (wide f ws))), some (.d (T G)), some (.d (T M)), none, none, none, none, none, none]) := by
    rw [fLc_ints (ns := M) (en1 := [some (.p S1), some (.d (T ws)), some (.d (.int s)), some (.d (.int f)), none, some (.d (T (wide f ws))), some (.d (T G)), some (.d (T M)), none, none, none, none, none, none]) (fun o => decide (o / f * f = o)) .int (by simp) (by omega) rfl fun n hn => ?_]
    · simp
    · by_cases c : n / f * f = n
      · simp [lcStep, open_, mff, df, c]
      · simp [lcStep, open_, mff, df, c]
  have k3 : fLc (fSeq (fVar 6)) (gSet 4) fYes (FL.f2 oMul (fVar 3) (fVar 4)) [4] [some (.p S1), some (.d (T ws)), some (.d (.int s)), some (.d (.int f)), none, some (.d (T (wide f ws))), some (.d (T G)), some (.d (T M)), none, none, none, none, none, none] =
      some ((G.map (f * ·)).map .int, [some (.p S1), some (.d (T ws)), some (.d (.int s)), some (.d (.int f)), none, some (.d (T (wide f ws))), some (.d (T G)), some (.d (T M)), none, none, none, none, none, none]) := by
    rw [fLc_imap (ns := G) (en1 := [some (.p S1), some (.d (T ws)), some (.d (.int s)), some (.d (.int f)), none, some (.d (T (wide f ws))), some (.d (T G)), some (.d (T M)), none, none, none, none, none, none]) (fun w => .int (f * w)) (by simp) (by omega) rfl fun n hn => ?_]
    · simp [Function.comp_def]
    · simp [lcStep, open_, mf]
  have neL1 := neL (M.filter (fun o => decide (o / f * f = o))) (G.map (f * ·))
  rw [eL] at neL1 k2
  simp only [decide_true, Bool.not_true] at neL1
  simp only [List.map_map] at neL1 k2 k3
  have second : ∃ en, g__law_stretched_holds_3 (shEn S2 ws s f G M u (judge ws s u) (judge (wide f ws) (f * s) (f * u))) = some (.rt (.bool true), some (.p S2) :: en) := by
    rcases jd_cases (f := f) (s := s) hf hu ws 0 hw1 with ⟨i, d, j1, j2, j3⟩ | ⟨j1, j2, j3, j4⟩
    · have t1 : judge ws s u = offD i d := by unfold judge; rw [j1]
      have t2 : judge (wide f ws) (f * s) (f * u) = offD i (f * d) := by unfold judge; rw [j2]
      rw [t1, t2]
      exact sh_off h hs hs2 hf hf5 hu hu40 j3
    · have t1 : judge ws s u = fitsD (ws.map fun w => nr w u) := by unfold judge; rw [j1]
      have t2 : judge (wide f ws) (f * s) (f * u) = fitsD (ws.map fun w => nr w u) := by
        unfold judge
        rw [j2]
        simp only [wide, List.map_map, Function.comp_def, nr_sc hf]
      rw [t1, t2]
      exact sh_fits h hs hs2 hf hf5 hu hu40 j3 j4
  obtain ⟨en, hen⟩ := second
  have first : g__law_stretched_holds_2 [some (.p S1), some (.d (T ws)), some (.d (.int s)), some (.d (.int f)), none, some (.d (T (wide f ws))), some (.d (T G)), some (.d (T M)), none, none, none, none, none, none] = some (.rt (.bool true), some (.p S2) :: en) := by
    unfold shEn at hen
    simp [g__law_stretched_holds_2, open_, live, putL, e2, u1, mf, eJ1, eJ2, hen]
  refine ⟨S2, ?_, d2, ?_⟩
  rotate_left
  · unfold fcall
    rw [g__law_stretched_holds_cut]
    simp [open_, live, putL, e1, f2, k1, k2, k3, eG, eM, c1, c2, mf, o_mulL, gap, neL1, first]
    rfl
end K28
set_option Elab.async false
set_option linter.all false
set_option maxRecDepth 100000
set_option maxHeartbeats 8000000
/-! P28i: k28, _law_closest_holds. -/
namespace K28
open PySem PySem.Spec L2 L2.FL

theorem last_of : ∀ {l : List Int} {u : Int}, l.Pairwise (· < ·) → u ∈ l → (∀ x ∈ l, x ≤ u) → l.getLast? = some u
  | [], u, _, h, _ => by cases h
  | [x], u, _, h, _ => by
    rw [List.mem_singleton.mp h]
    rfl
  | x :: y :: r, u, hp, h, hm => by
    obtain ⟨p1, p2⟩ := List.pairwise_cons.mp hp
    rw [List.getLast?_cons_cons]
    refine last_of p2 ?_ fun z hz => hm z (by simp [hz])
    rcases List.mem_cons.mp h with rfl | h
    · have a := p1 y (by simp)
      have b := hm y (by simp)
      omega
    · exact h
theorem md_le {ws : List Int} {u g : Int} (hn : ws ≠ []) : md ws u ≤ g ↔ good ws g u = true := by
  rw [good_iff]
  constructor
  · intro h w hw
    have : dist w u ≤ md ws u := mx_ge (List.mem_map.mpr ⟨w, hw, rfl⟩)
    omega
  · intro h
    have m := mx_mem (ns := ws.map fun w => dist w u) (by simpa using hn)
    obtain ⟨w, hw, e⟩ := List.mem_map.mp m
    show mx (ws.map fun w => dist w u) ≤ g
    rw [← e]
    exact h w hw
theorem jd_good {s u : Int} : ∀ (ws : List Int) (k : Nat), (jd s u k ws = none ∧ good ws s u = true) ∨ (∃ i d, jd s u k ws = some (offD i d) ∧ good ws s u = false)
  | [], _ => .inl ⟨rfl, rfl⟩
  | w :: r, k => by
    by_cases c : s < dist w u
    · refine .inr ⟨k, w - nr w u * u, by simp [jd, c], ?_⟩
      have : ¬ dist w u ≤ s := by omega
      simp [good, this]
    · have h2 : dist w u ≤ s := by omega
      have e1 : jd s u k (w :: r) = jd s u (k + 1) r := by simp [jd, c]
      have e2 : good (w :: r) s u = good r s u := by simp [good, h2]
      rw [e1, e2]
      exact jd_good r (k + 1)
theorem judge_cases (ws : List Int) (s u : Int) : (good ws s u = true ∧ judge ws s u = fitsD (ws.map fun w => nr w u)) ∨ (good ws s u = false ∧ ∃ i d, judge ws s u = offD i d) := by
  unfold judge
  rcases jd_good (s := s) (u := u) ws 0 with ⟨h1, h2⟩ | ⟨i, d, h1, h2⟩
  · exact .inl ⟨h2, by rw [h1]⟩
  · exact .inr ⟨h2, i, d, by rw [h1]⟩
theorem sc_last {S : List PyData} {ws : List Int} {lo hi g u : Int} {x6 : Option SV} (h : Small ws) (hg : 0 ≤ g) (hg2 : g ≤ 100000) (h1 : 1 ≤ lo) (h2 : lo ≤ hi) (h3 : hi ≤ 1000) (hmax : ∀ v, lo ≤ v → v < hi + 1 → good ws g v = true → v ≤ u) :
    fLc (fRng2 (fVar 2) (FL.f2 oAdd (fVar 3) (fC (.int 1)))) (gSet 7) (fAnd (fBool (FL.f2 oEq (FL.f2 oIx (fCall g_judge_unit 3 3 [] (fCons (fVar 1) (fCons (fVar 4) (fCons (fVar 7) fNil)))) (fC (.int 0))) (fC (.str (PySem.Str.ofString "fits"))))) (fBool (FL.f2 oGt (fVar 7) (fVar 5)))) (fVar 7) [7]
      [some (.p S), some (.d (T ws)), some (.d (.int lo)), some (.d (.int hi)), some (.d (.int g)), some (.d (.int u)), x6, none] = some ([], [some (.p S), some (.d (T ws)), some (.d (.int lo)), some (.d (.int hi)), some (.d (.int g)), some (.d (.int u)), x6, none]) := by
  have z1 : RngOk lo ∧ RngOk (hi + 1) := ⟨rngIn (by omega) (by omega), rngIn (by omega) (by omega)⟩
  rw [fLc_ints (ns := rng lo (hi + 1)) (en1 := [some (.p S), some (.d (T ws)), some (.d (.int lo)), some (.d (.int hi)), some (.d (.int g)), some (.d (.int u)), x6, none]) (fun _ => false) .int (by simp [z1, rngL_rng]) (by rw [rng_length]; omega) rfl fun v hv => ?_]
  · simp
  · obtain ⟨v1, v2⟩ := mem_rng.mp hv
    have eJ := ev_judge_unit (s := g) (u := v) h.ws hg hg2 (by omega) (by omega)
    rcases judge_cases ws g v with ⟨q1, q2⟩ | ⟨q1, i, d, q2⟩
    · have := hmax v v1 v2 q1
      have c : ¬ u < v := by omega
      rw [q2] at eJ
      simp only [fitsD] at eJ
      simp [lcStep, open_, eJ, eq_ff, c]
    · rw [q2] at eJ
      simp only [offD] at eJ
      simp [lcStep, open_, eJ, eq_of]
theorem ev_closest {ws : List Int} {S : List PyData} {b : Nat} (h : Small ws) (hS : Drawn b S) (hb : b < 100000) :
    ∃ S' as', Drawn (b + 2) S' ∧ fcall g__law_closest_holds 6 [.p S, .d (T ws)] = some (.bool true, .p S' :: as') := by
  obtain ⟨r1, S1, ⟨a1, a2⟩, d1, e1⟩ := ev_draw' (m := 20) hS (by omega) (by decide) (by decide)
  obtain ⟨r2, S2, ⟨b1, b2⟩, d2, e2⟩ := ev_draw' (m := 40) d1 (by omega) (by decide) (by decide)
  have hW := h.ws
  have hl := h.len
  obtain ⟨lo, hlo⟩ : ∃ lo, lo = 1 + r1 := ⟨_, rfl⟩
  obtain ⟨hi, hhi⟩ : ∃ hi, hi = lo + r2 := ⟨_, rfl⟩
  have h4 : (hi - lo + 1) * (ws.length : Int) ≤ 20000 := bnd (by omega) (by omega) (by omega) (by omega)
  obtain ⟨u, hu, hm, ec⟩ := ev_closest_unit (lo := lo) (hi := hi) hW (by omega) (by omega) (by omega) h4
  obtain ⟨u1, u2⟩ := mem_rng.mp hu
  have g0 : 0 ≤ md ws u := md_nonneg hW.nonil
  have g1 : md ws u ≤ 100000 := by
    rw [md_le hW.nonil, good_iff]
    intro w hw
    obtain ⟨w1, w2⟩ := hW.b w hw
    exact dist_bound w1 w2 (by omega) (by omega)
  obtain ⟨g, hg⟩ : ∃ g, g = md ws u := ⟨_, rfl⟩
  rw [← hg] at ec g0 g1
  have gu : good ws g u = true := by rw [← md_le hW.nonil]; omega
  have hmax : ∀ v, lo ≤ v → v < hi + 1 → good ws g v = true → v ≤ u := fun v v1 v2 gv => by
    have k := (md_le hW.nonil).mpr gv
    have := hm v (mem_rng.mpr ⟨v1, v2⟩)
    omega
  have hlast : ((rng lo (hi + 1)).filter (good ws g)).getLast? = some u := by
    refine last_of ((rng_sorted _ _).filter _) (List.mem_filter.mpr ⟨hu, gu⟩) fun x hx => ?_
    obtain ⟨q1, q2⟩ := List.mem_filter.mp hx
    obtain ⟨q3, q4⟩ := mem_rng.mp q1
    exact hmax x q3 q4 q2
  obtain ⟨as1, eG⟩ := ev_greatest_unit hW g0 g1 (by omega) (by omega) (by omega) h4 hlast
  have eR : fcall g_rows_against 4 [.d (T ws), .d (.int g), .d (.int lo), .d (.int hi)] = some (.none, [.d (T ws), .d (.int g), .d (.int lo), .d (.int hi)]) := by
    rcases ev_rows hW g0 g1 (show 1 ≤ lo by omega) (by omega) (by omega) h4 with ⟨_, q⟩ | ⟨q, _⟩
    · exact q
    · rw [q u u1 (by omega)] at gu
      cases gu
  have eJ := ev_judge_unit (s := g) (u := u) hW g0 g1 (by omega) (by omega)
  have tJ : judge ws g u = fitsD (ws.map fun w => nr w u) := by
    rcases judge_cases ws g u with ⟨_, q⟩ | ⟨q, _⟩
    · exact q
    · rw [q] at gu; cases gu
  rw [tJ] at eJ
  simp only [fitsD] at eJ
  have eL := fun x6 => sc_last (S := S2) (x6 := x6) h g0 g1 (show 1 ≤ lo by omega) (show lo ≤ hi by omega) (show hi ≤ 1000 by omega) hmax
  have eq0 := eqL [] []
  have ne0 := neT [] []
  simp only [List.map_nil, decide_true, Bool.not_true] at eq0 ne0
  by_cases c : 0 < g
  · have nog : ∀ v, lo ≤ v → v ≤ hi → good ws (g - 1) v = false := fun v v1 v2 => by
      rw [Bool.eq_false_iff]
      intro q
      have k := (md_le hW.nonil).mpr q
      have := hm v (mem_rng.mpr ⟨v1, by omega⟩)
      omega
    have eG2 := ev_good_units (s := g - 1) (lo := lo) (hi := hi) hW (by omega) (by omega) (by omega) (by omega) (by omega) h4
    have fn : (rng lo (hi + 1)).filter (good ws (g - 1)) = [] := by
      rw [List.filter_eq_nil_iff]
      intro v hv
      obtain ⟨v1, v2⟩ := mem_rng.mp hv
      rw [nog v v1 (by omega)]
      decide
    rw [fn] at eG2
    obtain ⟨rs, hrl, hch, eR2⟩ : ∃ rs : List Row, rs.length ≤ 100001 ∧ Chain ws (g - 1) lo rs (hi + 1) ∧ fcall g_rows_against 4 [.d (T ws), .d (.int (g - 1)), .d (.int lo), .d (.int hi)] = some (.tuple (rs.map rw3), [.d (T ws), .d (.int (g - 1)), .d (.int lo), .d (.int hi)]) := by
      rcases ev_rows (s := g - 1) hW (by omega) (by omega) (show 1 ≤ lo by omega) (by omega) (by omega) h4 with ⟨⟨v, v1, v2, q⟩, _⟩ | ⟨_, q⟩
      · rw [nog v v1 v2] at q; cases q
      · exact q
    obtain ⟨as2, eA⟩ := ev_accept_none (s := g - 1) hW (by omega) (by omega) (show 1 ≤ lo by omega) (by omega) (by omega) h4 hrl hch
    simp only [T, List.map_nil] at eG2
    simp only [T] at eG eR eJ eL eR2 eA ec e1 e2 ⊢
    refine ⟨S2, ?_, d2, ?_⟩
    rotate_left
    · unfold fcall
      simp [g__law_closest_holds, open_, live, putL, e1, e2, ← hlo, ← hhi, ec, eG, eR, eJ, ne_ff, c, eR2, eA, eG2, ne0, eL, eq0]
      rfl
  · simp only [T] at eG eR eJ eL ec e1 e2 ⊢
    refine ⟨S2, ?_, d2, ?_⟩
    rotate_left
    · unfold fcall
      simp [g__law_closest_holds, open_, live, putL, e1, e2, ← hlo, ← hhi, ec, eG, eR, eJ, ne_ff, c, eL, eq0]
      rfl
end K28
set_option Elab.async false
set_option linter.all false
set_option maxRecDepth 100000
set_option maxHeartbeats 8000000
/-! P28j: k28, _law_heaps_hold. -/
namespace K28
open PySem PySem.Spec L2 L2.FL

theorem ofs_app (s u : Int) : ∀ (a b : List Int) (k : Nat), ofs s u k (a ++ b) = ofs s u k a ++ ofs s u (k + a.length) b
  | [], b, k => by simp [ofs]
  | w :: r, b, k => by
    have ih := ofs_app s u r b (k + 1)
    rw [show k + 1 + r.length = k + (w :: r).length by simp; omega] at ih
    simp only [List.cons_append, ofs, ih]
    split <;> simp
theorem ofs_shift (s u : Int) : ∀ (b : List Int) (j k : Nat), ofs s u (k + j) b = (ofs s u j b).map (fun x => x + (k : Int))
  | [], j, k => by simp [ofs]
  | w :: r, j, k => by
    have ih := ofs_shift s u r (j + 1) k
    rw [show k + (j + 1) = k + j + 1 by omega] at ih
    simp only [ofs, ih]
    split
    · simp only [List.map_cons, List.cons.injEq, and_true]
      omega
    · rfl
theorem ofs_bound (s u : Int) : ∀ (a : List Int) (k : Nat), ∀ n ∈ ofs s u k a, 0 ≤ n ∧ n < (k : Int) + a.length
  | [], k, n, h => by simp [ofs] at h
  | w :: r, k, n, h => by
    have ih := ofs_bound s u r (k + 1)
    simp only [ofs] at h
    simp only [List.length_cons]
    split at h
    · rcases List.mem_cons.mp h with rfl | h
      · omega
      · have := ih n h; omega
    · have := ih n h; omega
theorem ofs_length (s u : Int) : ∀ (a : List Int) (k : Nat), (ofs s u k a).length ≤ a.length
  | [], k => by simp [ofs]
  | w :: r, k => by
    have ih := ofs_length s u r (k + 1)
    simp only [ofs]
    split <;> simp <;> omega
def G60 (s : Int) (ws : List Int) : List Int := (rng 1 (60 + 1)).filter (good ws s)
theorem G60_len (s : Int) (ws : List Int) : (G60 s ws).length ≤ 60 := by
  refine Nat.le_trans (List.length_filter_le _ _) ?_
  rw [rng_length]
  decide
theorem both_list (s : Int) (a b : List Int) : G60 s (a ++ b) = (G60 s a).filter (fun o => decide (o ∈ G60 s b)) := by
  unfold G60
  rw [List.filter_filter]
  apply List.filter_congr
  intro x hx
  have e : good (a ++ b) s x = (good a s x && good b s x) := by simp [good]
  rw [e]
  have m : decide (x ∈ (rng 1 (60 + 1)).filter (good b s)) = good b s x := by
    rw [Bool.eq_iff_iff, decide_eq_true_eq, List.mem_filter]
    exact ⟨fun q => q.2, fun q => ⟨hx, q⟩⟩
  rw [m, Bool.and_comm]
theorem twice_list (s : Int) (a : List Int) : G60 s (a ++ a) = G60 s a := by
  unfold G60
  apply List.filter_congr
  intro x _
  simp [good]
def divides (ws : List Int) (o : Int) : Bool := ws.all fun w => decide (w / o * o = w)
theorem exact_list {ws : List Int} (h : Ws ws) : G60 0 ws = (rng 1 61).filter (divides ws) := by
  unfold G60
  apply List.filter_congr
  intro x hx
  obtain ⟨x1, _⟩ := mem_rng.mp hx
  rw [Bool.eq_iff_iff, good_iff]
  simp only [divides, List.all_eq_true, decide_eq_true_eq]
  have key : ∀ w ∈ ws, (dist w x ≤ 0 ↔ w / x * x = w) := fun w hw => by
    obtain ⟨h0, g1, g2, hh⟩ := dist_cases (h.b w hw).1 x1
    rcases hh with ⟨z, e, _⟩ | ⟨z, hh⟩
    · rw [z] at g1 g2 ⊢
      have := (h.b w hw).1
      omega
    · generalize w / x * x = p at *
      omega
  exact ⟨fun q w hw => (key w hw).mp (q w hw), fun q w hw => (key w hw).mpr (q w hw)⟩
theorem small_app {a b : List Int} (ha : Small a) (hb : Small b) : Ws (a ++ b) := by
  refine ⟨by have := ha.ne; simp; omega, by have := ha.len; have := hb.len; simp; omega, fun w hw => ?_⟩
  rcases List.mem_append.mp hw with hw | hw
  · exact ha.ws.b w hw
  · exact hb.ws.b w hw
theorem hp_k1 {S : List PyData} {ws ot : List Int} {s : Int} (h : Small ws) (ho : Small ot) (hs : 0 ≤ s) (hs2 : s ≤ 5) :
    fLc (fSeq (fOfL (fLst (fCons (fVar 1) (fCons (fVar 3) (fCons (FL.f2 oAdd (fVar 1) (fVar 3)) fNil)))))) (gSet 4) fYes (fCall g_good_units 4 1 [] (fCons (fVar 4) (fCons (fVar 2) (fCons (fC (.int 1)) (fCons (fC (.int 60)) fNil))))) [4]
      [some (.p S), some (.d (T ws)), some (.d (.int s)), some (.d (T ot)), none, none, none, none, none, none, none, none] = some ([T (G60 s ws), T (G60 s ot), T (G60 s (ws ++ ot))], [some (.p S), some (.d (T ws)), some (.d (.int s)), some (.d (T ot)), none, none, none, none, none, none, none, none]) := by
  have hl := h.len
  have hl2 := ho.len
  have ct : oAdd (T ws) (T ot) = some (T (ws ++ ot)) := by
    rw [o_cat (by simp; omega)]
    simp
  have gu : ∀ a, (a = ws ∨ a = ot ∨ a = ws ++ ot) → Ws a ∧ (a.length : Int) ≤ 10 := fun a ha => by
    rcases ha with rfl | rfl | rfl
    · exact ⟨h.ws, by omega⟩
    · exact ⟨ho.ws, by omega⟩
    · exact ⟨small_app h ho, by simp; omega⟩
  have F : ∀ a, (a = ws ∨ a = ot ∨ a = ws ++ ot) → fcall g_good_units 1 [.d (T a), .d (.int s), .d (.int 1), .d (.int 60)] = some (T (G60 s a), [.d (T a), .d (.int s), .d (.int 1), .d (.int 60)]) := fun a ha =>
    ev_good_units (gu a ha).1 hs (by omega) (by decide) (by decide) (by decide) (bnd (by decide) (by decide) (by omega) (by have := (gu a ha).2; omega))
  rw [fLc_pure (xs := [T ws, T ot, T (ws ++ ot)]) (en1 := [some (.p S), some (.d (T ws)), some (.d (.int s)), some (.d (T ot)), none, none, none, none, none, none, none, none]) (fun x => match x with | .tuple xs => (toInts xs).map fun ns => T (G60 s ns) | _ => none) (by simp [ct]) (by simp) rfl fun x hx => ?_]
  · have t1 := toInts_map ws
    have t2 := toInts_map ot
    have t3 := toInts_map (ws ++ ot)
    simp only [List.map_append] at t3
    simp [t1, t2, t3]
  · have : ∃ a, (a = ws ∨ a = ot ∨ a = ws ++ ot) ∧ x = T a := by
      simp only [List.mem_cons, List.not_mem_nil, or_false] at hx
      rcases hx with rfl | rfl | rfl
      · exact ⟨ws, .inl rfl, rfl⟩
      · exact ⟨ot, .inr (.inl rfl), rfl⟩
      · exact ⟨ws ++ ot, .inr (.inr rfl), rfl⟩
    obtain ⟨a, ha, rfl⟩ := this
    have fa := F a ha
    have ta := toInts_map a
    simp [lcStep, open_, fa, ta]
theorem hp_k4 {S : List PyData} {ws : List Int} {s : Int} {o3 o4 o5 o6 o7 o8 o9 : PyData} (h : Small ws) :
    fLc (fRng2 (fC (.int 1)) (fC (.int 61))) (gSet 4) (fBool (FL.f2 oEq (fOfL (fLc (fSeq (fVar 1)) (gSet 10) (fBool (FL.f2 oNe (FL.f2 oMul (FL.f2 oDiv (fVar 10) (fVar 4)) (fVar 4)) (fVar 10))) (fVar 10) [10])) (fOfL (fLst fNil)))) (fVar 4) [4]
      [some (.p S), some (.d (T ws)), some (.d (.int s)), some (.d o3), none, some (.d o5), some (.d o6), some (.d o7), some (.d o8), some (.d o9), none, none] = some (((rng 1 61).filter (divides ws)).map .int, [some (.p S), some (.d (T ws)), some (.d (.int s)), some (.d o3), none, some (.d o5), some (.d o6), some (.d o7), some (.d o8), some (.d o9), none, none]) := by
  have hl := h.len
  have inner : ∀ o : Int, 1 ≤ o → o ≤ 60 → fLc (fSeq (fVar 1)) (gSet 10) (fBool (FL.f2 oNe (FL.f2 oMul (FL.f2 oDiv (fVar 10) (fVar 4)) (fVar 4)) (fVar 10))) (fVar 10) [10] [some (.p S), some (.d (T ws)), some (.d (.int s)), some (.d o3), some (.d (.int o)), some (.d o5), some (.d o6), some (.d o7), some (.d o8), some (.d o9), none, none] =
      some ((ws.filter fun w => decide (w / o * o ≠ w)).map .int, [some (.p S), some (.d (T ws)), some (.d (.int s)), some (.d o3), some (.d (.int o)), some (.d o5), some (.d o6), some (.d o7), some (.d o8), some (.d o9), none, none]) := fun o h1 h2 => by
    have dv : ∀ i, oDiv (.int i) (.int o) = some (.int (i / o)) := fun i => o_div (by omega) (by omega)
    have ml : ∀ i, oMul (.int i) (.int o) = some (.int (i * o)) := fun i => o_mulR (by omega) (by omega)
    rw [fLc_ints (ns := ws) (en1 := [some (.p S), some (.d (T ws)), some (.d (.int s)), some (.d o3), some (.d (.int o)), some (.d o5), some (.d o6), some (.d o7), some (.d o8), some (.d o9), none, none]) (fun w => decide (w / o * o ≠ w)) .int (by simp) (by omega) rfl fun n hn => ?_]
    · simp
    · by_cases c : n / o * o = n
      · simp [lcStep, open_, dv, ml, c]
      · simp [lcStep, open_, dv, ml, c]
  rw [fLc_ints (ns := rng 1 61) (en1 := [some (.p S), some (.d (T ws)), some (.d (.int s)), some (.d o3), none, some (.d o5), some (.d o6), some (.d o7), some (.d o8), some (.d o9), none, none]) (divides ws) .int (by have := rngL_rng 1 61; simp at this; simp [this]) (by rw [rng_length]; decide) rfl fun o hn => ?_]
  · simp
  · obtain ⟨n1, n2⟩ := mem_rng.mp hn
    have i1 := inner o n1 (by omega)
    have e0 := eqL (ws.filter fun w => decide (w / o * o ≠ w)) []
    have d : decide ((ws.filter fun w => decide (w / o * o ≠ w)) = []) = divides ws o := by
      rw [Bool.eq_iff_iff]
      simp [divides, List.filter_eq_nil_iff]
    rw [d] at e0
    simp only [List.map_nil] at e0
    generalize (ws.filter fun w => decide (w / o * o ≠ w)) = Z at i1 e0
    by_cases c : divides ws o = true
    · rw [c] at e0 ⊢
      simp [lcStep, open_, i1, e0]
    · rw [Bool.eq_false_iff.mpr c] at e0 ⊢
      simp [lcStep, open_, i1, e0]
theorem dv_len (ws : List Int) : ((rng 1 61).filter (divides ws)).length ≤ 1000000 := by
  have h := List.length_filter_le (divides ws) (rng 1 61)
  rw [rng_length] at h
  have e : (61 - 1 : Int).toNat = 60 := by decide
  omega
theorem hp_k5 {S : List PyData} {ws : List Int} {s : Int} {o3 o5 o6 o7 o8 o9 : PyData} (h : Small ws) :
    fLc (fSeq (fVar 11)) (gSet 4) (fBool (FL.f2 oNe (FL.f2 oMul (FL.f2 oDiv (fCall g_common_unit 1 2 [] (fCons (fVar 1) fNil)) (fVar 4)) (fVar 4)) (fCall g_common_unit 1 2 [] (fCons (fVar 1) fNil)))) (fVar 4) [4]
      [some (.p S), some (.d (T ws)), some (.d (.int s)), some (.d o3), none, some (.d o5), some (.d o6), some (.d o7), some (.d o8), some (.d o9), none, some (.d (.list (((rng 1 61).filter (divides ws)).map .int)))] = some ([], [some (.p S), some (.d (T ws)), some (.d (.int s)), some (.d o3), none, some (.d o5), some (.d o6), some (.d o7), some (.d o8), some (.d o9), none, some (.d (.list (((rng 1 61).filter (divides ws)).map .int)))]) := by
  obtain ⟨as', ec⟩ := ev_common_unit h.ws
  rw [fLc_ints (ns := (rng 1 61).filter (divides ws)) (en1 := [some (.p S), some (.d (T ws)), some (.d (.int s)), some (.d o3), none, some (.d o5), some (.d o6), some (.d o7), some (.d o8), some (.d o9), none, some (.d (.list (((rng 1 61).filter (divides ws)).map .int)))]) (fun _ => false) .int (by simp) (dv_len ws) rfl fun o hn => ?_]
  · simp
  · obtain ⟨q1, q2⟩ := List.mem_filter.mp hn
    obtain ⟨n1, n2⟩ := mem_rng.mp q1
    have dv : ∀ i, oDiv (.int i) (.int o) = some (.int (i / o)) := fun i => o_div (by omega) (by omega)
    have ml : ∀ i, oMul (.int i) (.int o) = some (.int (i * o)) := fun i => o_mulR (by omega) (by omega)
    have c : cu ws / o * o = cu ws := by
      refine Int.ediv_mul_cancel ((dvd_cu h.ws.nonil).mpr fun w hw => ?_)
      simp only [divides, List.all_eq_true, decide_eq_true_eq] at q2
      exact ⟨w / o, by rw [Int.mul_comm]; exact (q2 w hw).symm⟩
    simp [lcStep, open_, ec, dv, ml, c]
theorem ev_heaps {ws : List Int} {s : Int} {S : List PyData} {b : Nat} (h : Small ws) (hs : 0 ≤ s) (hs2 : s ≤ 5) (hS : Drawn b S) (hb : b < 90000) :
    ∃ S' as', Drawn (b + 21) S' ∧ fcall g__law_heaps_hold 9 [.p S, .d (T ws), .d (.int s)] = some (.bool true, .p S' :: as') := by
  obtain ⟨ot, S1, ho, d1, e1⟩ := ev_weights hS (by omega)
  obtain ⟨r2, S2, ⟨b1, b2⟩, d2, e2⟩ := ev_draw' (m := 30) d1 (by omega) (by decide) (by decide)
  obtain ⟨u, hu⟩ : ∃ u, u = 1 + r2 := ⟨_, rfl⟩
  have hW := h.ws
  have hl := h.len
  have hl2 := ho.len
  have hA := small_app h ho
  have hT := small_app h h
  have k1 := hp_k1 (S := S1) h ho hs hs2
  have ct : oAdd (T ws) (T ot) = some (T (ws ++ ot)) := by
    rw [o_cat (by simp; omega)]
    simp
  have cw : oAdd (T ws) (T ws) = some (T (ws ++ ws)) := by
    rw [o_cat (by simp; omega)]
    simp
  have k2 : fLc (fSeq (fVar 5)) (gSet 4) (fBool (FL.f2 oIn (fVar 4) (fVar 6))) (fVar 4) [4] [some (.p S1), some (.d (T ws)), some (.d (.int s)), some (.d (T ot)), none, some (.d (T (G60 s ws))), some (.d (T (G60 s ot))), some (.d (T (G60 s (ws ++ ot)))), none, none, none, none] =
      some ((G60 s (ws ++ ot)).map .int, [some (.p S1), some (.d (T ws)), some (.d (.int s)), some (.d (T ot)), none, some (.d (T (G60 s ws))), some (.d (T (G60 s ot))), some (.d (T (G60 s (ws ++ ot)))), none, none, none, none]) := by
    have gl := G60_len s ws
    rw [fLc_ints (ns := G60 s ws) (en1 := [some (.p S1), some (.d (T ws)), some (.d (.int s)), some (.d (T ot)), none, some (.d (T (G60 s ws))), some (.d (T (G60 s ot))), some (.d (T (G60 s (ws ++ ot)))), none, none, none, none]) (fun o => decide (o ∈ G60 s ot)) .int (by simp) (by omega) rfl fun o hn => ?_]
    · rw [both_list]
      simp
    · by_cases c : o ∈ G60 s ot
      · simp [lcStep, open_, inT, c]
      · simp [lcStep, open_, inT, c]
  obtain ⟨a1, c1⟩ := ev_common_unit hA
  obtain ⟨a2, c2⟩ := ev_common_unit hW
  obtain ⟨a3, c3⟩ := ev_common_unit ho.ws
  obtain ⟨p1, p2⟩ := cu_ok hW
  obtain ⟨p3, p4⟩ := cu_ok ho.ws
  obtain ⟨a4, c4⟩ := ev_common_unit (ws := [cu ws, cu ot]) ⟨by simp, by simp, fun w hw => by
    simp only [List.mem_cons, List.not_mem_nil, or_false] at hw
    rcases hw with rfl | rfl <;> omega⟩
  rw [← cu_app hW ho.ws hA] at c4
  have o1 := ev_off_weights (s := s) (u := u) hW hs (by omega) (by omega) (by omega)
  have o2 := ev_off_weights (s := s) (u := u) ho.ws hs (by omega) (by omega) (by omega)
  have o3 := ev_off_weights (s := s) (u := u) hA hs (by omega) (by omega) (by omega)
  have offE : ofs s u 0 (ws ++ ot) = ofs s u 0 ws ++ (ofs s u 0 ot).map (fun x => x + (ws.length : Int)) := by
    rw [ofs_app, ← ofs_shift, Nat.zero_add, Nat.add_zero]
  have l1 := ofs_length s u ws 0
  have l2 := ofs_length s u ot 0
  have l3 := ofs_length s u (ws ++ ot) 0
  have ca : oAdd (T (ofs s u 0 ws)) (T ((ofs s u 0 ot).map (fun x => x + (ws.length : Int)))) = some (T (ofs s u 0 (ws ++ ot))) := by
    rw [o_cat (by simp; omega), offE]
    simp
  have k3 : fLc (fSeq (fCall g_off_weights 3 2 [] (fCons (fVar 3) (fCons (fVar 2) (fCons (fVar 8) fNil))))) (gSet 4) fYes (FL.f2 oAdd (fVar 4) (fB oLen (fCons (fVar 1) fNil))) [4] [some (.p S2), some (.d (T ws)), some (.d (.int s)), some (.d (T ot)), none, some (.d (T (G60 s ws))), some (.d (T (G60 s ot))), some (.d (T (G60 s (ws ++ ot)))), some (.d (.int u)), none, none, none] =
      some (((ofs s u 0 ot).map (fun x => x + (ws.length : Int))).map .int, [some (.p S2), some (.d (T ws)), some (.d (.int s)), some (.d (T ot)), none, some (.d (T (G60 s ws))), some (.d (T (G60 s ot))), some (.d (T (G60 s (ws ++ ot)))), some (.d (.int u)), none, none, none]) := by
    rw [fLc_imap (ns := ofs s u 0 ot) (en1 := [some (.p S2), some (.d (T ws)), some (.d (.int s)), some (.d (T ot)), none, some (.d (T (G60 s ws))), some (.d (T (G60 s ot))), some (.d (T (G60 s (ws ++ ot)))), some (.d (.int u)), none, none, none]) (fun x => .int (x + (ws.length : Int))) (by simp [o2]) (by omega) rfl fun o hn => ?_]
    · simp [Function.comp_def]
    · simp [lcStep, open_]
  obtain ⟨a5, sm⟩ := ev_same (a := ofs s u 0 (ws ++ ot)) (fun n hn => by
    have := ofs_bound s u (ws ++ ot) 0 n hn
    have e : ((ws ++ ot).length : Int) ≤ 10 := by simp; omega
    have e2 : n.natAbs < 11 := by omega
    exact Nat.lt_of_lt_of_le e2 (by decide)) (by simp at l3; omega)
  have gT : fcall g_good_units 1 [.d (T (ws ++ ws)), .d (.int s), .d (.int 1), .d (.int 60)] = some (T (G60 s (ws ++ ws)), [.d (T (ws ++ ws)), .d (.int s), .d (.int 1), .d (.int 60)]) :=
    ev_good_units hT hs (by omega) (by decide) (by decide) (by decide) (bnd (by decide) (by decide) (by omega) (by simp; omega))
  rw [twice_list] at gT
  have g0 : fcall g_good_units 1 [.d (T ws), .d (.int 0), .d (.int 1), .d (.int 60)] = some (T (G60 0 ws), [.d (T ws), .d (.int 0), .d (.int 1), .d (.int 60)]) :=
    ev_good_units hW (by decide) (by decide) (by decide) (by decide) (by decide) (bnd (by decide) (by decide) (by omega) (by omega))
  rw [exact_list hW] at g0
  have n1 := neT (G60 s (ws ++ ot)) (G60 s (ws ++ ot))
  have n2 := neT (G60 s ws) (G60 s ws)
  have n3 := eqT ((rng 1 61).filter (divides ws)) ((rng 1 61).filter (divides ws))
  have eq0 := eqL [] []
  simp only [List.map_nil, decide_true, Bool.not_true] at eq0 n1 n2 n3
  have k4 := fun o3 o5 o6 o7 o8 o9 => hp_k4 (S := S2) (s := s) (o3 := o3) (o4 := .none) (o5 := o5) (o6 := o6) (o7 := o7) (o8 := o8) (o9 := o9) h
  have k5 := fun o3 o5 o6 o7 o8 o9 => hp_k5 (S := S2) (s := s) (o3 := o3) (o5 := o5) (o6 := o6) (o7 := o7) (o8 := o8) (o9 := o9) h
  generalize (rng 1 61).filter (divides ws) = E at g0 n3 k4 k5
  generalize G60 s (ws ++ ot) = GB at k1 k2 n1 k3
  generalize G60 s ws = GW at k1 k2 n2 k3 gT
  generalize G60 s ot = GO at k1 k2 k3
  generalize ofs s u 0 (ws ++ ot) = OB at o3 sm ca
  generalize ((ofs s u 0 ot).map (fun x => x + (ws.length : Int))) = OO at ca k3
  generalize cu (ws ++ ot) = CU at c1 c4
  simp only [T, List.map_cons, List.map_nil] at c4
  refine ⟨S2, ?_, d2.mono (by omega), ?_⟩
  rotate_left
  · unfold fcall
    simp [g__law_heaps_hold, open_, live, putL, e1, k1, k2, n1, ct, c1, c2, c3, c4, e2, ← hu, o1, k3, ca, o3, sm, cw, gT, n2, k4, g0, n3, k5, eq0]
    rfl
end K28
set_option Elab.async false
set_option linter.all false
set_option maxRecDepth 100000
set_option maxHeartbeats 8000000
/-! P28k: k28, the law. -/
namespace K28
open PySem PySem.Spec L2 L2.FL

noncomputable def turnB : SF := (sSeq (sPar [3, 4] (pE (fCall g__law_weights 1 3 [] (fCons (fVar 1) fNil)) (pE (fCall g__law_draw 2 1 [] (fCons (fVar 1) (fCons (fC (.int 6)) fNil))) pNil)))
  (sSeq (sIf (fOr (fNot (fTru (fCall g__law_divisors_hold 2 3 [] (fCons (fVar 3) (fCons (fVar 4) fNil))))) (fNot (fTru (fCall g__law_stretched_holds 3 11 [] (fCons (fVar 1) (fCons (fVar 3) (fCons (fVar 4) fNil))))))) (sRet (fC (.bool false))) sNil)
  (sIf (fOr (fNot (fTru (fCall g__law_closest_holds 2 6 [] (fCons (fVar 1) (fCons (fVar 3) fNil))))) (fNot (fTru (fCall g__law_heaps_hold 3 9 [] (fCons (fVar 1) (fCons (fVar 3) (fCons (fVar 4) fNil))))))) (sRet (fC (.bool false))) sNil)))
theorem turn_ok {L : PyData} {S : List PyData} {b : Nat} {x : PyData} {t w z : Option SV} (hS : Drawn b S) (hb : b < 80000) (ht : O t) (hw : O w) (hz : O z) :
    ∃ S' t' w' z', Drawn (b + 64) S' ∧ O t' ∧ O w' ∧ O z' ∧ ((gSet 2 x [some (.d L), some (.l S), t, w, z]).bind turnB) = some (.nx, [some (.d L), some (.l S'), t', w', z']) := by
  obtain ⟨ws, S1, hs, d1, e1⟩ := ev_weights hS (by omega)
  obtain ⟨s, S2, ⟨s0, s1⟩, d2, e2⟩ := ev_draw' (m := 6) d1 (by omega) (by decide) (by decide)
  obtain ⟨as1, e3⟩ := ev_divisors hs s0 (show s ≤ 10 by omega)
  obtain ⟨S3, as2, d3, e4⟩ := ev_stretched hs s0 (show s ≤ 5 by omega) d2 (by omega)
  obtain ⟨S4, as3, d4, e5⟩ := ev_closest hs d3 (by omega)
  obtain ⟨S5, as4, d5, e6⟩ := ev_heaps hs s0 (show s ≤ 5 by omega) d4 (by omega)
  refine ⟨S5, some (.d x), some (.d (T ws)), some (.d (.int s)), d5.mono (by omega), .inr ⟨_, rfl⟩, .inr ⟨_, rfl⟩, .inr ⟨_, rfl⟩, ?_⟩
  rcases ht with rfl | ⟨_, rfl⟩ <;> rcases hw with rfl | ⟨_, rfl⟩ <;> rcases hz with rfl | ⟨_, rfl⟩ <;> simp [turnB, open_, live, putL, e1, e2, e3, e4, e5, e6]
theorem turns_ok {L : PyData} : ∀ {xs : List PyData} {S : List PyData} {b : Nat} {t w z : Option SV}, Drawn b S → b + 64 * xs.length < 80000 → O t → O w → O z →
    ∃ en, forL (gSet 2) turnB xs [some (.d L), some (.l S), t, w, z] = some (.nx, some (.d L) :: en)
  | [], S, b, t, w, z, _, _, _, _, _ => ⟨_, rfl⟩
  | x :: xs, S, b, t, w, z, hS, hb, ht, hw, hz => by
    simp only [List.length_cons] at hb
    obtain ⟨S', t', w', z', d, q1, q2, q3, e⟩ := turn_ok (L := L) (x := x) hS (by omega) ht hw hz
    obtain ⟨en, k⟩ := turns_ok (L := L) (xs := xs) d (by omega) q1 q2 q3
    refine ⟨en, ?_⟩
    obtain ⟨en1, h1, h2⟩ := Option.bind_eq_some_iff.mp e
    rw [x_forL1, h1, Option.bind_some, h2, Option.bind_some]
    exact k
theorem law_all (ns : List Int) (h : ns.length ≤ 63) : ∃ r, fcall g_law 4 [.d (.list (ns.map .int))] = some (.bool true, r) := by
  obtain ⟨S, en0, hS, e0⟩ := ev_rStart h
  have e0' : h__law_start [some (.d (.list (ns.map .int))), none, none] = some (S, en0) := e0
  obtain ⟨en, k⟩ := turns_ok (L := .list (ns.map .int)) (xs := rngL 0 3) hS (by simp [rngL]) (t := none) (w := none) (z := none) (.inl rfl) (.inl rfl) (.inl rfl)
  have k' : forL (gSet 2) turnB (rngL 0 (3 : Int).toNat) [some (.d (.list (ns.map .int))), some (.l S), none, none, none] = some (.nx, some (.d (.list (ns.map .int))) :: en) := k
  have eg : g_law = (sSeq (sAsgL 1 (fCallL h__law_start 1 2 (fCons (fVar 0) fNil))) (sSeq (sFor (fRng1 (fC (.int 3))) (gSet 2) turnB) (sRet (fC (.bool true))))) := rfl
  unfold fcall
  rw [eg]
  exact ⟨_, by simp [open_, noLv, datS, e0', k]; rfl⟩
end K28
open PySem PySem.W PyProof.Rows
set_option maxHeartbeats 0 in
theorem PySem.Challenge.cw_hoardsread_k28_units_within_units_holds : PySem.Challenge.rw_hoardsread_k28_units_within_units.Holds := by
  w_on; o_law; k_head; (case hw => w_witness2)
  k_fill
  refine L2.FL.walk_ofG (l := PySem.Challenge.rw_hoardsread_k28_units_within_units) (n := 63) (k := 7) (m := 4) (g := K28.g_law) (x := PySem.Str.ofString "script") rfl (by decide) rfl ⟨rfl, by decide, by decide⟩ (fun w h Y => PySem.W.kIn_of Y) ?F K28.law_all
  case F =>
    intro w mg fa h KX G hmg
    refine' K28.all_mk KX G hmg ?a0 ?l0 ?c0 ?k0 ?a1 ?l1 ?c1 ?k1 ?a2 ?l2 ?c2 ?k2 ?a3 ?l3 ?c3 ?k3 ?a4 ?l4 ?c4 ?k4 ?a5 ?l5 ?c5 ?k5 ?a6 ?l6 ?c6 ?k6 ?q6 ?a7 ?l7 ?c7 ?k7 ?a8 ?l8 ?c8 ?k8 ?a9 ?l9 ?c9 ?k9 ?a10 ?l10 ?c10 ?k10 ?a11 ?l11 ?c11 ?k11 ?a12 ?l12 ?c12 ?k12 ?a13 ?l13 ?c13 ?k13 ?a14 ?l14 ?c14 ?k14 ?a15 ?l15 ?c15 ?k15 ?a16 ?l16 ?c16 ?k16 ?a17 ?l17 ?c17 ?k17 ?a18 ?l18 ?c18 ?k18 ?a19 ?l19 ?c19 ?k19 ?a20 ?l20 ?c20 ?k20 ?a21 ?l21 ?c21 ?k21 ?a22 ?l22 ?c22 ?k22 ?a23 ?l23 ?c23 ?k23 ?a24 ?l24 ?c24 ?k24 ?a25 ?l25 ?c25 ?k25 ?zb_abs ?zb_all ?zb_bool ?zb_enumerate ?zb_int ?zb_isinstance ?zb_len ?zb_list ?zb_max ?zb_min ?zb_range ?zb_repr ?zb_tuple ?zb_zip ?zk_MAX_COINS ?zk_MAX_LOOKED ?zk_MAX_UNIT
    (case a0 => k_is)
    (case l0 => k_is)
    (case c0 => k_is)
    (case k0 => k_is)
    (case a1 => k_is)
    (case l1 => k_is)
    (case c1 => k_is)
    (case k1 => k_is)
    (case a2 => k_is)
    (case l2 => k_is)
    (case c2 => k_is)
    (case k2 => k_is)
    (case a3 => k_is)
    (case l3 => k_is)
    (case c3 => k_is)
    (case k3 => k_is)
    (case a4 => k_is)
    (case l4 => k_is)
    (case c4 => k_is)
    (case k4 => k_is)
    (case a5 => k_is)
    (case l5 => k_is)
    (case c5 => k_is)
    (case k5 => k_is)
    (case a6 => k_is)
    (case l6 => k_is)
    (case c6 => k_is)
    (case k6 => k_is)
    (case q6 => k_is)
    (case a7 => k_is)
    (case l7 => k_is)
    (case c7 => k_is)
    (case k7 => k_is)
    (case a8 => k_is)
    (case l8 => k_is)
    (case c8 => k_is)
    (case k8 => k_is)
    (case a9 => k_is)
    (case l9 => k_is)
    (case c9 => k_is)
    (case k9 => k_is)
    (case a10 => k_is)
    (case l10 => k_is)
    (case c10 => k_is)
    (case k10 => k_is)
    (case a11 => k_is)
    (case l11 => k_is)
    (case c11 => k_is)
    (case k11 => k_is)
    (case a12 => k_is)
    (case l12 => k_is)
    (case c12 => k_is)
    (case k12 => k_is)
    (case a13 => k_is)
    (case l13 => k_is)
    (case c13 => k_is)
    (case k13 => k_is)
    (case a14 => k_is)
    (case l14 => k_is)
    (case c14 => k_is)
    (case k14 => k_is)
    (case a15 => k_is)
    (case l15 => k_is)
    (case c15 => k_is)
    (case k15 => k_is)
    (case a16 => k_is)
    (case l16 => k_is)
    (case c16 => k_is)
    (case k16 => k_is)
    (case a17 => k_is)
    (case l17 => k_is)
    (case c17 => k_is)
    (case k17 => k_is)
    (case a18 => k_is)
    (case l18 => k_is)
    (case c18 => k_is)
    (case k18 => k_is)
    (case a19 => k_is)
    (case l19 => k_is)
    (case c19 => k_is)
    (case k19 => k_is)
    (case a20 => k_is)
    (case l20 => k_is)
    (case c20 => k_is)
    (case k20 => k_is)
    (case a21 => k_is)
    (case l21 => k_is)
    (case c21 => k_is)
    (case k21 => k_is)
    (case a22 => k_is)
    (case l22 => k_is)
    (case c22 => k_is)
    (case k22 => k_is)
    (case a23 => k_is)
    (case l23 => k_is)
    (case c23 => k_is)
    (case k23 => k_is)
    (case a24 => k_is)
    (case l24 => k_is)
    (case c24 => k_is)
    (case k24 => k_is)
    (case a25 => k_is)
    (case l25 => k_is)
    (case c25 => k_is)
    (case k25 => k_is)
    (case zb_abs => k_is)
    (case zb_all => k_is)
    (case zb_bool => k_is)
    (case zb_enumerate => k_is)
    (case zb_int => k_is)
    (case zb_isinstance => k_is)
    (case zb_len => k_is)
    (case zb_list => k_is)
    (case zb_max => k_is)
    (case zb_min => k_is)
    (case zb_range => k_is)
    (case zb_repr => k_is)
    (case zb_tuple => k_is)
    (case zb_zip => k_is)
    (case zk_MAX_COINS => k_is)
    (case zk_MAX_LOOKED => k_is)
    (case zk_MAX_UNIT => k_is)
